/- Small laws for walks, the thirty-ninth part: comparing lists of bytes; searching. -/
import Derived.Lib.Bytealg
import Derived.Lib.UnsafeStr
import Init.Data.List.Lex
import Derived.Test.YtcpfdfejojghbaaProg
import Derived.KernelRfl
import Derived.Test.YtcpfdfejojghbaaB1
set_option linter.unusedVariables false
set_option linter.unusedSimpArgs false

namespace Go.Gx
open Go.RowKit
theorem cmpT_bytes : ∀ (a b : List UInt8), Lib.compareBytes a b = cmpT a b
  | [], [] => rfl
  | [], _ :: _ => rfl
  | _ :: _, [] => rfl
  | a :: x, b :: y => by
    simp only [Lib.compareBytes, cmpT, cmpT_bytes x y, UInt8.lt_iff_toNat_lt]
theorem lt_cons {a b : UInt8} {x y : List UInt8} : (a :: x) < (b :: y) ↔ a < b ∨ a = b ∧ x < y := List.cons_lt_cons_iff
theorem cmpT_lt : ∀ {a b : List UInt8}, cmpT a b < 0 ↔ a < b
  | [], [] => by simp [cmpT]
  | [], _ :: _ => by simp [cmpT]
  | _ :: _, [] => by simp [cmpT]
  | a :: x, b :: y => by
    rw [lt_cons]
    simp only [cmpT]
    by_cases h1 : a.toNat < b.toNat
    · have : a < b := UInt8.lt_iff_toNat_lt.2 h1
      simp [h1, this]
    · have h1' : ¬ a < b := fun h => h1 (UInt8.lt_iff_toNat_lt.1 h)
      by_cases h2 : b.toNat < a.toNat
      · have h3 : ¬ a = b := by rintro rfl; omega
        simp [h1, h2, h1', h3]
      · have h3 : a = b := UInt8.toNat_inj.1 (by omega)
        subst h3
        simp [cmpT_lt (a := x) (b := y), h1']
theorem cmpT_zero {a b : List UInt8} : cmpT a b = 0 ↔ a = b := ⟨cmpT_eq, fun h => h ▸ cmpT_refl a⟩
theorem run_ldB {P : Program} (w : World) : ∀ (l : List UInt8) (a : Addr) (acc : ByteArray), (∀ j x, l[j]? = some x → w.cell? (a.add j) = some (.int .u8 x.toNat)) →
    (Extern.Bytes.loadBytes a l.length acc).run P w = .ok ⟨acc.data ++ l.toArray⟩ w
  | [], a, acc, _ => by simp [Extern.Bytes.loadBytes]
  | x :: l, a, acc, h => by
    have h0 : w.cell? a = some (.int .u8 x.toNat) := by
      have := h 0 x rfl
      simpa [Addr.add] using this
    have ih := run_ldB (P := P) w l (a.add 1) (acc.push x) (fun j y hy => by
      have := h (j + 1) y (by simpa using hy)
      have e : (a.add 1).add j = a.add (j + 1) := by
        unfold Addr.add
        by_cases hj : j = 0
        · subst hj; simp
        · simp [hj]; omega
      rw [e]; exact this)
    have hx : ((x.toNat : Int).toNat).toUInt8 = x := by simp
    simp only [List.length_cons, Extern.Bytes.loadBytes, Sem.run_bind, run_load, h0, Result.andThen, hx]
    rw [ih]
    congr 1
    apply ByteArray.ext
    simp [ByteArray.push]
section
variable {P : Program} {w : World} {L B L2 B2 n m : Nat} {v u : Value} {la lb : List UInt8}
theorem run_bytesOf (R : RdC w L B 1 v n (la.map u8v)) : (Extern.Bytes.bytesOf v).run P w = .ok (bs la) w := by
  obtain ⟨hl, ad, c, rfl, _, _, hc⟩ := R
  rw [List.length_map] at hl
  have e : bs la = ⟨(ByteArray.empty).data ++ la.toArray⟩ := by apply ByteArray.ext; simp [bs]
  cases ad with
  | none =>
    rcases hc with h | ⟨b, off, ha, _⟩
    · have : la = [] := by simpa using h
      subst this
      rfl
    · cases ha
  | some a =>
    have hn : n = la.length := by omega
    subst hn
    show (Extern.Bytes.loadBytes a la.length .empty).run P w = _
    rw [e]
    exact run_ldB w la a .empty fun j x hx => by
      rcases hc with h | ⟨b, off, ha, _, _, hc⟩
      · have : la = [] := by simpa using h
        subst this
        cases hx
      · cases ha
        rw [Addr.add_lit]
        exact hc j _ (by rw [List.getElem?_map, hx]; rfl)
theorem run_cmpB (R : RdC w L B 1 v n (la.map u8v)) (R2 : RdC w L2 B2 1 u m (lb.map u8v)) : (Extern.BytealgCompare.compare #[v, u]).run P w = .ok (.int .i64 (cmpT la lb)) w := by
  change Sem.run P (do pure (goInt (Extern.BytealgCompare.cmp (← Extern.Bytes.bytesOf v) (← Extern.Bytes.bytesOf u)))) w = _
  simp only [Sem.run_bind, run_bytesOf R, run_bytesOf R2, Result.andThen, Sem.run_pure]
  rw [Lib.cmp_eq, cmpT_bytes]
  rfl
end
end Go.Gx

namespace Go.Bt
abbrev Ky := List UInt8
def Tr (V : Type) : Nat → Type
  | 0 => List (Ky × V)
  | h + 1 => List Ky × List (Tr V h)
def Tr.nil {V : Type} : (h : Nat) → Tr V h
  | 0 => ([] : List (Ky × V))
  | _ + 1 => (([], []) : List Ky × List _)
instance {V : Type} {h : Nat} : Inhabited (Tr V h) := ⟨Tr.nil h⟩
section
variable {V : Type}
def szT : (h : Nat) → Tr V h → Nat
  | 0, ps => (ps : List (Ky × V)).length
  | _ + 1, t => t.1.length
def toL : (h : Nat) → Tr V h → List (Ky × V)
  | 0, ps => ps
  | h + 1, t => t.2.flatMap (toL h)
def dom : (h : Nat) → Tr V h → List Ky
  | 0, ps => (ps : List (Ky × V)).map Prod.fst
  | h + 1, t => t.1 ++ t.2.flatMap (dom h)
def way (ks : List Ky) (x : Ky) : Nat := ks.countP (fun k => decide (k ≤ x))
def pos (ks : List Ky) (x : Ky) : Nat := ks.countP (fun k => decide (k < x))
abbrev Sorted (ks : List Ky) : Prop := ks.Pairwise (· < ·)
/-! ### where a key stands -/
theorem way_mono {ks : List Ky} {x y : Ky} (h : x ≤ y) : way ks x ≤ way ks y := by
  unfold way
  exact List.countP_mono_left fun k _ hk => by simp only [decide_eq_true_eq] at hk ⊢; grind
theorem lt_of_way {ks : List Ky} {x y : Ky} (h : way ks x < way ks y) : x < y := by
  by_cases hxy : y ≤ x
  · have := way_mono (ks := ks) hxy; omega
  · grind
theorem way_le (ks : List Ky) (x : Ky) : way ks x ≤ ks.length := List.countP_le_length
theorem way_append (a b : List Ky) (x : Ky) : way (a ++ b) x = way a x + way b x := List.countP_append
theorem way_cons (k : Ky) (ks : List Ky) (x : Ky) : way (k :: ks) x = way ks x + if k ≤ x then 1 else 0 := by
  unfold way; rw [List.countP_cons]; by_cases h : k ≤ x <;> simp [h]
theorem way_all {ks : List Ky} {x : Ky} (h : ∀ k ∈ ks, k ≤ x) : way ks x = ks.length := by
  unfold way; rw [List.countP_eq_length]; exact fun k hk => by simpa using h k hk
theorem way_none {ks : List Ky} {x : Ky} (h : ∀ k ∈ ks, x < k) : way ks x = 0 := by
  unfold way; rw [List.countP_eq_zero]; exact fun k hk => by have := h k hk; simp only [decide_eq_true_eq]; grind
theorem cut_at {ks : List Ky} {i : Nat} (h : i < ks.length) : ks = ks.take i ++ ks[i] :: ks.drop (i + 1) := by
  rw [← List.drop_eq_getElem_cons h, List.take_append_drop]
theorem insIdx {α : Type} (a : α) : ∀ {i : Nat} {l : List α}, i ≤ l.length → l.insertIdx i a = l.take i ++ a :: l.drop i
  | 0, l, _ => by simp
  | i + 1, [], h => by simp at h
  | i + 1, b :: l, h => by simp only [List.insertIdx_succ_cons, List.take_succ_cons, List.drop_succ_cons, List.cons_append]; rw [insIdx a (by simpa using h)]
theorem way_ins {ks : List Ky} {i : Nat} (h : i ≤ ks.length) (k x : Ky) : way (ks.insertIdx i k) x = way ks x + if k ≤ x then 1 else 0 := by
  rw [insIdx k h, way_append, way_cons]
  have := way_append (ks.take i) (ks.drop i) x
  rw [List.take_append_drop] at this
  omega
theorem way_sorted {ks : List Ky} (hs : Sorted ks) {x : Ky} {j : Nat} (hj : j < ks.length) : ks[j] ≤ x ↔ j < way ks x := by
  have hl := cut_at hj
  have hp := List.pairwise_iff_getElem.1 hs
  constructor
  · intro h
    have h1 : way (ks.take (j + 1)) x = j + 1 := by
      rw [way_all]
      · simp; omega
      · intro k hk
        obtain ⟨q, hq, rfl⟩ := List.getElem_of_mem hk
        rw [List.length_take] at hq
        rw [List.getElem_take]
        by_cases hqj : q = j
        · subst hqj; exact h
        · have := hp q j (by omega) hj (by omega); grind
    have h2 := way_append (ks.take (j + 1)) (ks.drop (j + 1)) x
    rw [List.take_append_drop] at h2
    omega
  · intro h
    by_cases hx : ks[j] ≤ x
    · exact hx
    · exfalso
      have h1 : way (ks.drop j) x = 0 := way_none fun k hk => by
        obtain ⟨q, hq, rfl⟩ := List.getElem_of_mem hk
        rw [List.length_drop] at hq
        rw [List.getElem_drop]
        by_cases hqj : q = 0
        · subst hqj; simp; grind
        · have := hp j (j + q) hj (by omega) (by omega); grind
      have h2 := way_append (ks.take j) (ks.drop j) x
      rw [List.take_append_drop] at h2
      have h3 := way_le (ks.take j) x
      rw [List.length_take] at h3
      omega
/-! ### what a tree must be -/
def okSz (h : Nat) (c : Tr V h) : Prop := 3 ≤ szT h c ∧ szT h c ≤ 6
def Ok : (h : Nat) → Tr V h → Prop
  | 0, ps => Sorted ((ps : List (Ky × V)).map Prod.fst)
  | h + 1, t => t.2.length = t.1.length + 1 ∧ Sorted t.1 ∧ (∀ i c, t.2[i]? = some c → Ok h c ∧ ∀ x ∈ dom h c, way t.1 x = i) ∧ ∀ c ∈ t.2, okSz h c
def Nd (h : Nat) (ks : List Ky) (cs : List (Tr V h)) : Prop := cs.length = ks.length + 1 ∧ Sorted ks ∧ ∀ i c, cs[i]? = some c → Ok h c ∧ ∀ x ∈ dom h c, way ks x = i
variable {h : Nat} {ks ks2 : List Ky} {cs cs2 : List (Tr V h)} {c : Tr V h} {x K : Ky} {i j : Nat}
theorem ok_node : Ok (h + 1) ((ks, cs) : Tr V (h + 1)) ↔ Nd h ks cs ∧ ∀ c ∈ cs, okSz h c := by
  constructor
  · rintro ⟨h1, h2, h3, h4⟩; exact ⟨⟨h1, h2, h3⟩, h4⟩
  · rintro ⟨⟨h1, h2, h3⟩, h4⟩; exact ⟨h1, h2, h3, h4⟩
theorem dom_node {ks : List Ky} {cs : List (Tr V h)} : x ∈ dom (h + 1) ((ks, cs) : Tr V (h + 1)) ↔ x ∈ ks ∨ ∃ c ∈ cs, x ∈ dom h c := by
  show x ∈ ks ++ cs.flatMap (dom h) ↔ _
  rw [List.mem_append, List.mem_flatMap]
theorem toL_node {ks : List Ky} {cs : List (Tr V h)} {p : Ky × V} : p ∈ toL (h + 1) ((ks, cs) : Tr V (h + 1)) ↔ ∃ c ∈ cs, p ∈ toL h c := by
  show p ∈ cs.flatMap (toL h) ↔ _
  rw [List.mem_flatMap]
theorem dom_of_toL : ∀ {h : Nat} {t : Tr V h} {p : Ky × V}, p ∈ toL h t → p.1 ∈ dom h t
  | 0, t, p, hp => List.mem_map.2 ⟨p, hp, rfl⟩
  | h + 1, t, p, hp => by
    obtain ⟨c, hc, hp⟩ := toL_node.1 hp
    exact dom_node.2 (.inr ⟨c, hc, dom_of_toL hp⟩)
theorem Nd.at (H : Nd h ks cs) (hi : i ≤ ks.length) : ∃ c, cs[i]? = some c ∧ Ok h c ∧ ∀ x ∈ dom h c, way ks x = i := by
  have hl : i < cs.length := by have := H.1; omega
  exact ⟨cs[i], List.getElem?_eq_getElem hl, H.2.2 i _ (List.getElem?_eq_getElem hl)⟩
theorem Nd.append (H : Nd h ks cs) (H2 : Nd h ks2 cs2) (hl : ∀ x ∈ ks, x < K) (hlc : ∀ c ∈ cs, ∀ x ∈ dom h c, x < K) (hr : ∀ c ∈ cs2, ∀ x ∈ dom h c, K ≤ x) (hr2 : ∀ x ∈ ks2, K < x) : Nd h (ks ++ K :: ks2) (cs ++ cs2) := by
  obtain ⟨a1, a2, a3⟩ := H
  obtain ⟨b1, b2, b3⟩ := H2
  refine ⟨by simp; omega, ?_, fun i c hc => ?_⟩
  · rw [Sorted, List.pairwise_append, List.pairwise_cons]
    refine ⟨a2, ⟨hr2, b2⟩, fun x hx y hy => ?_⟩
    rcases List.mem_cons.1 hy with rfl | hy
    · exact hl x hx
    · have := hl x hx; have := hr2 y hy; grind
  · rw [List.getElem?_append] at hc
    split at hc
    · rename_i hi
      obtain ⟨q1, q2⟩ := a3 i c hc
      refine ⟨q1, fun x hx => ?_⟩
      have hxK := hlc c (List.mem_of_getElem? hc) x hx
      rw [way_append, way_cons, q2 x hx, way_none (ks := ks2) fun k hk => by have := hr2 k hk; grind]
      have : ¬ K ≤ x := by grind
      simp [this]
    · rename_i hi
      obtain ⟨q1, q2⟩ := b3 _ c hc
      refine ⟨q1, fun x hx => ?_⟩
      have hxK := hr c (List.mem_of_getElem? hc) x hx
      rw [way_append, way_cons, q2 x hx, way_all (ks := ks) fun k hk => by have := hl k hk; grind]
      simp [hxK]; omega
theorem Nd.take (H : Nd h ks cs) {n : Nat} (hn : n ≤ ks.length) : Nd h (ks.take n) (cs.take (n + 1)) := by
  obtain ⟨a1, a2, a3⟩ := H
  refine ⟨by simp; omega, a2.sublist (List.take_sublist _ _), fun i c hc => ?_⟩
  rw [List.getElem?_take] at hc
  split at hc
  · rename_i hi
    obtain ⟨q1, q2⟩ := a3 i c hc
    refine ⟨q1, fun x hx => ?_⟩
    have h1 := way_append (ks.take n) (ks.drop n) x
    rw [List.take_append_drop, q2 x hx] at h1
    have h2 : way (ks.drop n) x = 0 := way_none fun k hk => by
      obtain ⟨q, hq, rfl⟩ := List.getElem_of_mem hk
      rw [List.length_drop] at hq
      rw [List.getElem_drop]
      have := way_sorted a2 (x := x) (j := n + q) (by omega)
      rw [q2 x hx] at this
      grind
    omega
  · cases hc
theorem Nd.drop (H : Nd h ks cs) {n : Nat} (hn : n ≤ ks.length) : Nd h (ks.drop n) (cs.drop n) := by
  obtain ⟨a1, a2, a3⟩ := H
  refine ⟨by simp; omega, a2.sublist (List.drop_sublist _ _), fun i c hc => ?_⟩
  rw [List.getElem?_drop] at hc
  obtain ⟨q1, q2⟩ := a3 _ c hc
  refine ⟨q1, fun x hx => ?_⟩
  have h1 := way_append (ks.take n) (ks.drop n) x
  rw [List.take_append_drop, q2 x hx] at h1
  have h2 : way (ks.take n) x = n := by
    rw [way_all]
    · simp; omega
    · intro k hk
      obtain ⟨q, hq, rfl⟩ := List.getElem_of_mem hk
      rw [List.length_take] at hq
      rw [List.getElem_take]
      have := way_sorted a2 (x := x) (j := q) (by omega)
      rw [q2 x hx] at this
      grind
  omega
theorem Nd.set (H : Nd h ks cs) (hc : Ok h c) (hd : ∀ x ∈ dom h c, way ks x = i) : Nd h ks (cs.set i c) := by
  obtain ⟨a1, a2, a3⟩ := H
  refine ⟨by simp; omega, a2, fun j d hj => ?_⟩
  rw [List.getElem?_set] at hj
  split at hj
  · rename_i hij
    split at hj
    · injection hj with hj; subst hj; subst hij; exact ⟨hc, hd⟩
    · cases hj
  · exact a3 j d hj
theorem Nd.part (H : Nd h ks cs) (hi : i ≤ ks.length) {a b : Tr V h} (ha : Ok h a) (hb : Ok h b) (h1 : ∀ x ∈ dom h a, x < K ∧ way ks x = i) (h2 : ∀ x ∈ dom h b, K ≤ x ∧ way ks x = i) (hK : way ks K = i) (hne : ∃ x, x ∈ dom h a) : Nd h (ks.insertIdx i K) ((cs.set i a).insertIdx (i + 1) b) := by
  obtain ⟨a1, a2, a3⟩ := id H
  have wi := way_ins hi K
  have hp := List.pairwise_iff_getElem.1 a2
  refine ⟨by rw [List.length_insertIdx, List.length_insertIdx, List.length_set, if_pos (by omega), if_pos hi]; omega, ?_, fun j d hj => ?_⟩
  · obtain ⟨z, hz⟩ := hne
    have hz1 := h1 z hz
    rw [insIdx K hi, Sorted, List.pairwise_append, List.pairwise_cons]
    have lo : ∀ k ∈ ks.take i, k ≤ z := fun k hk => by
      obtain ⟨q, hq, rfl⟩ := List.getElem_of_mem hk
      rw [List.length_take] at hq; rw [List.getElem_take]
      have := way_sorted a2 (x := z) (j := q) (by omega); grind
    have hi' : ∀ k ∈ ks.drop i, K < k := fun k hk => by
      obtain ⟨q, hq, rfl⟩ := List.getElem_of_mem hk
      rw [List.length_drop] at hq; rw [List.getElem_drop]
      have := way_sorted a2 (x := K) (j := i + q) (by omega); grind
    refine ⟨a2.sublist (List.take_sublist _ _), ⟨hi', a2.sublist (List.drop_sublist _ _)⟩, fun x hx y hy => ?_⟩
    have := lo x hx
    rcases List.mem_cons.1 hy with rfl | hy
    · grind
    · have := hi' y hy; grind
  · rw [List.getElem?_insertIdx, List.getElem?_set, List.getElem?_set, List.length_set] at hj
    by_cases hji : j = i
    · subst hji
      have : j < j + 1 := by omega
      simp [this] at hj
      obtain ⟨hq, rfl⟩ := hj
      refine ⟨ha, fun x hx => ?_⟩
      have := wi x; have := h1 x hx; grind
    · by_cases hj1 : j = i + 1
      · subst hj1
        have : d = b := by grind
        subst this
        refine ⟨hb, fun x hx => ?_⟩
        have := wi x; have := h2 x hx; grind
      · by_cases hlt : j < i
        · have : cs[j]? = some d := by grind
          obtain ⟨q1, q2⟩ := a3 j d this
          refine ⟨q1, fun x hx => ?_⟩
          have := wi x; have q := q2 x hx
          have : x < K := lt_of_way (ks := ks) (by omega)
          grind
        · have : cs[j - 1]? = some d := by grind
          obtain ⟨q1, q2⟩ := a3 (j - 1) d this
          refine ⟨q1, fun x hx => ?_⟩
          have := wi x; have q := q2 x hx
          have : K < x := lt_of_way (ks := ks) (by omega)
          grind
/-! ### what is done -/
def hd (l : List (Ky × V)) : Ky := (l.head?.map Prod.fst).getD []
def halves : (h : Nat) → Tr V h → Tr V h × Option (Ky × Tr V h)
  | 0, ps => let l : List (Ky × V) := ps; if l.length ≤ 6 then (l, none) else (l.take (l.length - 3), some (hd (l.drop (l.length - 3)), l.drop (l.length - 3)))
  | _ + 1, t => if t.1.length ≤ 6 then (t, none) else ((t.1.take (t.1.length / 2), t.2.take (t.1.length / 2 + 1)), some (t.1.getD (t.1.length / 2) [], (t.1.drop (t.1.length / 2 + 1), t.2.drop (t.1.length / 2 + 1))))
def hasK (l : List (Ky × V)) (k : Ky) : Bool := (l.map Prod.fst).contains k
def insT2 {h : Nat} (t : Tr V (h + 1)) (i : Nat) (c : Tr V h) : Option (Ky × Tr V h) → Tr V (h + 1)
  | none => (t.1, t.2.set i c)
  | some (u, m) => (t.1.insertIdx i u, (t.2.set i c).insertIdx (i + 1) m)
def putT : (h : Nat) → Ky → V → Tr V h → Bool × Tr V h × Option (Ky × Tr V h)
  | 0, k, v, ps => let l : List (Ky × V) := ps; let i := pos (l.map Prod.fst) k
    if hasK l k = true then (true, (l.set i ((l.getD i (k, v)).1, v) : List (Ky × V)), none) else (false, halves 0 (l.insertIdx i (k, v) : List (Ky × V)))
  | h + 1, k, v, t => let i := way t.1 k; let r := putT h k v (t.2.getD i default); (r.1, halves (h + 1) (insT2 t i r.2.1 r.2.2))
def Two (h : Nat) (D : Ky → Prop) (lo : Nat) (M : Ky × V → Prop) (t : Tr V h) : Option (Ky × Tr V h) → Prop
  | none => Ok h t ∧ lo ≤ szT h t ∧ szT h t ≤ 6 ∧ (∀ x ∈ dom h t, D x) ∧ (∀ p, p ∈ toL h t ↔ M p)
  | some (u, m) => Ok h t ∧ Ok h m ∧ okSz h t ∧ okSz h m ∧ (∀ x ∈ dom h t, D x ∧ x < u) ∧ (∀ x ∈ dom h m, D x ∧ u ≤ x) ∧ D u ∧ (∀ p, p ∈ toL h t ∨ p ∈ toL h m ↔ M p)
theorem put0 {l : List (Ky × V)} {k : Ky} {v : V} : putT 0 k v (l : Tr V 0) = if hasK l k = true then (true, ((l.set (pos (l.map Prod.fst) k) ((l.getD (pos (l.map Prod.fst) k) (k, v)).1, v) : List (Ky × V)) : Tr V 0), none) else (false, halves 0 ((l.insertIdx (pos (l.map Prod.fst) k) (k, v) : List (Ky × V)) : Tr V 0)) := rfl
theorem puts {k : Ky} {v : V} : putT (h + 1) k v ((ks, cs) : Tr V (h + 1)) = ((putT h k v (cs.getD (way ks k) default)).1, halves (h + 1) (insT2 ((ks, cs) : Tr V (h + 1)) (way ks k) (putT h k v (cs.getD (way ks k) default)).2.1 (putT h k v (cs.getD (way ks k) default)).2.2)) := rfl
theorem map_set_fst {l : List (Ky × V)} {i : Nat} {v : V} (hi : i < l.length) : (l.set i (l[i].1, v)).map Prod.fst = l.map Prod.fst := by
  apply List.ext_getElem
  · simp
  · intro j h1 h2
    rw [List.getElem_map, List.getElem_map, List.getElem_set]
    split
    · rename_i e; subst e; rfl
    · rfl
theorem dom_ne : ∀ {h : Nat} {t : Tr V h}, Ok h t → 0 < szT h t → ∃ x, x ∈ dom h t
  | 0, t, _, hs => by
    match t, hs with
    | p :: l, _ => exact ⟨p.1, List.mem_cons_self ..⟩
  | h + 1, (k :: ks, cs), _, _ => ⟨k, dom_node.2 (.inl (List.mem_cons_self ..))⟩
theorem halves_leaf {l : List (Ky × V)} {D : Ky → Prop} {lo : Nat} (H : Sorted (l.map Prod.fst)) (hlo : lo ≤ l.length) (h7 : l.length ≤ 7) (hD : ∀ p ∈ l, D p.1) : Two 0 D lo (fun p => p ∈ l) (halves 0 (l : Tr V 0)).1 (halves 0 (l : Tr V 0)).2 := by
  unfold halves
  simp only []
  split
  · rename_i h6
    exact ⟨H, hlo, h6, fun x hx => by obtain ⟨p, hp, rfl⟩ := List.mem_map.1 hx; exact hD p hp, fun p => Iff.rfl⟩
  · rename_i h6
    have e : l = l.take (l.length - 3) ++ l.drop (l.length - 3) := (List.take_append_drop _ _).symm
    have hne : ∃ q l2, l.drop (l.length - 3) = q :: l2 := by
      cases hq : l.drop (l.length - 3) with
      | nil => have := congrArg List.length hq; simp at this; omega
      | cons q l2 => exact ⟨q, l2, rfl⟩
    obtain ⟨q, l2, hq⟩ := hne
    have hu : hd (l.drop (l.length - 3)) = q.1 := by rw [hq]; rfl
    rw [e, List.map_append, Sorted, List.pairwise_append] at H
    obtain ⟨H1, H2, H3⟩ := H
    have hmem : ∀ p, p ∈ l ↔ p ∈ l.take (l.length - 3) ∨ p ∈ l.drop (l.length - 3) := fun p => by conv => lhs; rw [e, List.mem_append]
    have hH2 : Sorted (q.1 :: l2.map Prod.fst) := by rw [hq] at H2; exact H2
    refine ⟨H1, H2, ⟨by show 3 ≤ (l.take _).length; simp; omega, by show (l.take _).length ≤ 6; simp; omega⟩, ⟨by show 3 ≤ (l.drop _).length; simp; omega, by show (l.drop _).length ≤ 6; simp; omega⟩, fun x hx => ?_, fun x hx => ?_, ?_, fun p => (hmem p).symm⟩
    · obtain ⟨p, hp, rfl⟩ := List.mem_map.1 hx
      exact ⟨hD p ((hmem p).2 (.inl hp)), by rw [hu]; exact H3 _ hx _ (by rw [hq]; exact List.mem_cons_self ..)⟩
    · obtain ⟨p, hp, rfl⟩ := List.mem_map.1 hx
      refine ⟨hD p ((hmem p).2 (.inr hp)), ?_⟩
      rw [hu]
      rw [hq] at hp
      rcases List.mem_cons.1 hp with rfl | hp
      · grind
      · have := (List.pairwise_cons.1 hH2).1 _ (List.mem_map.2 ⟨p, hp, rfl⟩); grind
    · rw [hu]; exact hD q ((hmem q).2 (.inr (by rw [hq]; exact List.mem_cons_self ..)))
theorem halves_node {D : Ky → Prop} {lo : Nat} (H : Nd h ks cs) (hs : ∀ c ∈ cs, okSz h c) (hlo : lo ≤ ks.length) (h7 : ks.length ≤ 7) (hD : ∀ x ∈ dom (h + 1) ((ks, cs) : Tr V (h + 1)), D x) :
    Two (h + 1) D lo (fun p => p ∈ toL (h + 1) ((ks, cs) : Tr V (h + 1))) (halves (h + 1) ((ks, cs) : Tr V (h + 1))).1 (halves (h + 1) ((ks, cs) : Tr V (h + 1))).2 := by
  unfold halves
  simp only []
  split
  · rename_i h6
    exact ⟨ok_node.2 ⟨H, hs⟩, hlo, h6, hD, fun p => Iff.rfl⟩
  · rename_i h6
    have hl : ks.length = 7 := by omega
    rw [hl]
    show Two (h + 1) D lo _ ((ks.take 3, cs.take 4) : Tr V (h + 1)) (some (ks.getD 3 [], ((ks.drop 4, cs.drop 4) : Tr V (h + 1))))
    have h3 : 3 < ks.length := by omega
    have hK : ks.getD 3 [] = ks[3] := by simp [List.getD_eq_getElem?_getD, h3]
    have hp := List.pairwise_iff_getElem.1 H.2.1
    have hw : ∀ {j : Nat} (hj : j < ks.length) (x : Ky), ks[j] ≤ x ↔ j < way ks x := fun hj x => way_sorted H.2.1 hj
    rw [hK]
    have mt : ∀ c ∈ cs.take 4, ∃ j, j < 4 ∧ cs[j]? = some c := fun c hc => by
      obtain ⟨q, hq, rfl⟩ := List.getElem_of_mem hc
      rw [List.length_take] at hq
      exact ⟨q, by omega, by rw [List.getElem_take]; exact List.getElem?_eq_getElem (by omega)⟩
    have md : ∀ c ∈ cs.drop 4, ∃ j, 4 ≤ j ∧ cs[j]? = some c := fun c hc => by
      obtain ⟨q, hq, rfl⟩ := List.getElem_of_mem hc
      rw [List.length_drop] at hq
      exact ⟨4 + q, by omega, by rw [List.getElem_drop]; exact List.getElem?_eq_getElem (by omega)⟩
    have mk1 : ∀ k ∈ ks.take 3, k < ks[3] := fun k hk => by
      obtain ⟨q, hq, rfl⟩ := List.getElem_of_mem hk
      rw [List.length_take] at hq; rw [List.getElem_take]; exact hp q 3 (by omega) h3 (by omega)
    have mk2 : ∀ k ∈ ks.drop 4, ks[3] < k := fun k hk => by
      obtain ⟨q, hq, rfl⟩ := List.getElem_of_mem hk
      rw [List.length_drop] at hq; rw [List.getElem_drop]; exact hp 3 (4 + q) h3 (by omega) (by omega)
    have ec : ∀ c, c ∈ cs ↔ c ∈ cs.take 4 ∨ c ∈ cs.drop 4 := fun c => by rw [← List.mem_append, List.take_append_drop]
    have ek : ∀ k, k ∈ ks.take 3 ∨ k ∈ ks.drop 4 → k ∈ ks := fun k hk => hk.elim List.mem_of_mem_take List.mem_of_mem_drop
    refine ⟨ok_node.2 ⟨H.take (by omega), fun c hc => hs c ((ec c).2 (.inl hc))⟩, ok_node.2 ⟨H.drop (by omega), fun c hc => hs c ((ec c).2 (.inr hc))⟩, ⟨by show 3 ≤ (ks.take 3).length; simp; omega, by show (ks.take 3).length ≤ 6; simp; omega⟩, ⟨by show 3 ≤ (ks.drop 4).length; simp; omega, by show (ks.drop 4).length ≤ 6; simp; omega⟩, fun x hx => ?_, fun x hx => ?_, hD _ (dom_node.2 (.inl (List.getElem_mem h3))), fun p => ?_⟩
    · rcases dom_node.1 hx with hx | ⟨c, hc, hx⟩
      · exact ⟨hD x (dom_node.2 (.inl (ek x (.inl hx)))), mk1 x hx⟩
      · obtain ⟨j, hj, hcj⟩ := mt c hc
        have := (H.2.2 j c hcj).2 x hx; have := hw h3 x
        exact ⟨hD x (dom_node.2 (.inr ⟨c, (ec c).2 (.inl hc), hx⟩)), by grind⟩
    · rcases dom_node.1 hx with hx | ⟨c, hc, hx⟩
      · exact ⟨hD x (dom_node.2 (.inl (ek x (.inr hx)))), by have := mk2 x hx; grind⟩
      · obtain ⟨j, hj, hcj⟩ := md c hc
        have := (H.2.2 j c hcj).2 x hx; have := hw h3 x
        exact ⟨hD x (dom_node.2 (.inr ⟨c, (ec c).2 (.inr hc), hx⟩)), by grind⟩
    · rw [toL_node, toL_node]
      show _ ↔ p ∈ toL (h + 1) ((ks, cs) : Tr V (h + 1))
      rw [toL_node]
      constructor
      · rintro (⟨c, hc, hp⟩ | ⟨c, hc, hp⟩)
        · exact ⟨c, (ec c).2 (.inl hc), hp⟩
        · exact ⟨c, (ec c).2 (.inr hc), hp⟩
      · rintro ⟨c, hc, hp⟩
        exact ((ec c).1 hc).imp (fun q => ⟨c, q, hp⟩) (fun q => ⟨c, q, hp⟩)
/-! leaves -/
theorem pos_sorted {ks : List Ky} (hs : Sorted ks) {x : Ky} {j : Nat} (hj : j < ks.length) : ks[j] < x ↔ j < pos ks x := by
  have hp := List.pairwise_iff_getElem.1 hs
  have ap : ∀ a b : List Ky, pos (a ++ b) x = pos a x + pos b x := fun a b => List.countP_append
  constructor
  · intro h
    have h1 : pos (ks.take (j + 1)) x = j + 1 := by
      have : pos (ks.take (j + 1)) x = (ks.take (j + 1)).length := by
        unfold pos; rw [List.countP_eq_length]; intro k hk
        obtain ⟨q, hq, rfl⟩ := List.getElem_of_mem hk
        rw [List.length_take] at hq
        rw [List.getElem_take, decide_eq_true_eq]
        by_cases hqj : q = j
        · subst hqj; exact h
        · have := hp q j (by omega) hj (by omega); grind
      rw [this]; simp; omega
    have h2 := ap (ks.take (j + 1)) (ks.drop (j + 1))
    rw [List.take_append_drop] at h2
    omega
  · intro h
    by_cases hx : ks[j] < x
    · exact hx
    · exfalso
      have h1 : pos (ks.drop j) x = 0 := by
        unfold pos; rw [List.countP_eq_zero]; intro k hk
        obtain ⟨q, hq, rfl⟩ := List.getElem_of_mem hk
        rw [List.length_drop] at hq
        rw [List.getElem_drop, decide_eq_true_eq]
        by_cases hqj : q = 0
        · subst hqj; simp; grind
        · have := hp j (j + q) hj (by omega) (by omega); grind
      have h2 := ap (ks.take j) (ks.drop j)
      rw [List.take_append_drop] at h2
      have h3 : pos (ks.take j) x ≤ (ks.take j).length := List.countP_le_length
      rw [List.length_take] at h3
      omega
theorem pos_le (ks : List Ky) (x : Ky) : pos ks x ≤ ks.length := List.countP_le_length
theorem pos_hit {ks : List Ky} (hs : Sorted ks) {x : Ky} (hx : x ∈ ks) : ∃ hj : pos ks x < ks.length, ks[pos ks x] = x := by
  obtain ⟨j, hj, rfl⟩ := List.getElem_of_mem hx
  have h1 := pos_sorted hs (x := ks[j]) hj
  have hp := List.pairwise_iff_getElem.1 hs
  have h0 : pos ks ks[j] ≤ j := by grind
  have : pos ks ks[j] = j := by
    by_cases hq : pos ks ks[j] = j
    · exact hq
    · have h2 := pos_sorted hs (x := ks[j]) (j := pos ks ks[j]) (by omega)
      have h3 := hp (pos ks ks[j]) j (by omega) hj (by omega)
      grind
  exact ⟨by omega, by simp only [this]⟩
theorem hasK_iff {l : List (Ky × V)} {k : Ky} : hasK l k = true ↔ ∃ p ∈ l, p.1 = k := by
  unfold hasK; rw [List.contains_iff_mem, List.mem_map]
def PutM (M : Ky × V → Prop) (k : Ky) (v : V) (p : Ky × V) : Prop := p = (k, v) ∨ (p.1 ≠ k ∧ M p)
theorem Two.congr {D : Ky → Prop} {lo : Nat} {M M2 : Ky × V → Prop} {t : Tr V h} {o : Option (Ky × Tr V h)} (H : Two h D lo M t o) (hM : ∀ p, M p ↔ M2 p) : Two h D lo M2 t o := by
  cases o with
  | none => exact ⟨H.1, H.2.1, H.2.2.1, H.2.2.2.1, fun p => (H.2.2.2.2 p).trans (hM p)⟩
  | some q => exact ⟨H.1, H.2.1, H.2.2.1, H.2.2.2.1, H.2.2.2.2.1, H.2.2.2.2.2.1, H.2.2.2.2.2.2.1, fun p => (H.2.2.2.2.2.2.2 p).trans (hM p)⟩
theorem put_leaf {l : List (Ky × V)} {k : Ky} {v : V} {D : Ky → Prop} (H : Sorted (l.map Prod.fst)) (h6 : l.length ≤ 6) (hD : ∀ p ∈ l, D p.1) (hk : D k) :
    ((putT 0 k v (l : Tr V 0)).1 = true ↔ ∃ p ∈ l, p.1 = k) ∧ Two 0 D l.length (PutM (fun p => p ∈ l) k v) (putT 0 k v (l : Tr V 0)).2.1 (putT 0 k v (l : Tr V 0)).2.2 := by
  rw [put0]
  split
  · rename_i hh
    have hm := hasK_iff.1 hh
    obtain ⟨p0, hp0, hk0⟩ := id hm
    obtain ⟨hj, hx⟩ := pos_hit H (x := k) (by rw [List.mem_map]; exact ⟨p0, hp0, hk0⟩)
    rw [List.length_map] at hj
    rw [List.getElem_map] at hx
    have hg : l.getD (pos (l.map Prod.fst) k) (k, v) = l[pos (l.map Prod.fst) k] := by simp [List.getD_eq_getElem?_getD, hj]
    refine ⟨⟨fun _ => hm, fun _ => rfl⟩, ?_, by show _ ≤ (l.set _ _).length; simp, by show (l.set _ _).length ≤ 6; simpa using h6, fun x hx2 => ?_, fun p => ?_⟩
    · show Sorted ((l.set _ _).map Prod.fst)
      rw [hg, map_set_fst hj]; exact H
    · have hx2' : x ∈ (l.set (pos (l.map Prod.fst) k) ((l.getD (pos (l.map Prod.fst) k) (k, v)).1, v)).map Prod.fst := hx2
      rw [hg, map_set_fst hj] at hx2'
      obtain ⟨p, hp, rfl⟩ := List.mem_map.1 hx2'; exact hD p hp
    · show p ∈ l.set _ _ ↔ _
      rw [hg, hx]
      unfold PutM
      constructor
      · intro hp
        obtain ⟨q, hq, rfl⟩ := List.getElem_of_mem hp
        rw [List.length_set] at hq
        rw [List.getElem_set]
        split
        · exact .inl rfl
        · rename_i hne
          refine .inr ⟨fun e => hne ?_, List.getElem_mem _⟩
          have := List.pairwise_iff_getElem.1 H
          rcases Nat.lt_trichotomy q (pos (l.map Prod.fst) k) with h1 | h1 | h1
          · have := this q _ (by simpa using hq) (by simpa using hj) h1; simp at this; grind
          · exact h1.symm
          · have := this _ q (by simpa using hj) (by simpa using hq) h1; simp at this; grind
      · rintro (rfl | ⟨hne, hp⟩)
        · exact List.mem_iff_getElem.2 ⟨_, by simpa using hj, by simp⟩
        · obtain ⟨q, hq, rfl⟩ := List.getElem_of_mem hp
          refine List.mem_iff_getElem.2 ⟨q, by simpa using hq, ?_⟩
          rw [List.getElem_set, if_neg]
          intro e
          apply hne
          simp only [← e]; exact hx
  · rename_i hh
    have hm : ¬ ∃ p ∈ l, p.1 = k := fun q => hh (hasK_iff.2 q)
    have hle := pos_le (l.map Prod.fst) k
    rw [List.length_map] at hle
    refine ⟨⟨fun h => by simp at h, fun h => absurd h hm⟩, ?_⟩
    have hs : Sorted ((l.insertIdx (pos (l.map Prod.fst) k) (k, v)).map Prod.fst) := by
      rw [insIdx _ hle, List.map_append, List.map_cons, Sorted, List.pairwise_append, List.pairwise_cons]
      have lo : ∀ x ∈ (l.take (pos (l.map Prod.fst) k)).map Prod.fst, x < k := fun x hx => by
        rw [List.map_take] at hx
        obtain ⟨q, hq, rfl⟩ := List.getElem_of_mem hx
        rw [List.length_take] at hq; rw [List.getElem_take]
        exact (pos_sorted H (by omega)).2 (by omega)
      have hi : ∀ x ∈ (l.drop (pos (l.map Prod.fst) k)).map Prod.fst, k < x := fun x hx => by
        obtain ⟨p, hp, hpx⟩ := List.mem_map.1 hx
        rw [List.map_drop] at hx
        obtain ⟨q, hq, rfl⟩ := List.getElem_of_mem hx
        rw [List.length_drop] at hq; rw [List.getElem_drop] at hpx ⊢
        have h1 := pos_sorted H (x := k) (j := pos (l.map Prod.fst) k + q) (by omega)
        have h2 : p.1 ≠ k := fun e => hm ⟨p, List.mem_of_mem_drop hp, e⟩
        grind
      refine ⟨by rw [List.map_take]; exact H.sublist (List.take_sublist _ _), ⟨hi, by rw [List.map_drop]; exact H.sublist (List.drop_sublist _ _)⟩, fun x hx y hy => ?_⟩
      have := lo x hx
      rcases List.mem_cons.1 hy with rfl | hy
      · exact this
      · have := hi y hy; grind
    have hmem : ∀ p, p ∈ l.insertIdx (pos (l.map Prod.fst) k) (k, v) ↔ p = (k, v) ∨ p ∈ l := fun p => by rw [List.mem_insertIdx hle]
    have hlen : (l.insertIdx (pos (l.map Prod.fst) k) (k, v)).length = l.length + 1 := by rw [List.length_insertIdx, if_pos hle]
    refine (halves_leaf (lo := l.length) hs (by omega) (by omega) (fun p hp => ?_)).congr fun p => (hmem p).trans ?_
    · rcases (hmem p).1 hp with rfl | hp
      · exact hk
      · exact hD p hp
    · unfold PutM
      refine or_congr_right ⟨fun hp => ⟨fun e => hm ⟨p, hp, e⟩, hp⟩, fun hp => hp.2⟩
/-! nodes -/
theorem mem_at {α : Type} {l : List α} {a : α} : a ∈ l ↔ ∃ j : Nat, l[j]? = some a := List.mem_iff_getElem?
theorem put_ok : ∀ {h : Nat} {t : Tr V h} {k : Ky} {v : V} {D : Ky → Prop}, Ok h t → szT h t ≤ 6 → (∀ x ∈ dom h t, D x) → D k →
    ((putT h k v t).1 = true ↔ ∃ p ∈ toL h t, p.1 = k) ∧ Two h D (szT h t) (PutM (fun p => p ∈ toL h t) k v) (putT h k v t).2.1 (putT h k v t).2.2
  | 0, t, k, v, D, H, h6, hD, hk => put_leaf (l := t) H h6 (fun p hp => hD p.1 (List.mem_map.2 ⟨p, hp, rfl⟩)) hk
  | h + 1, (ks, cs), k, v, D, H, h6, hD, hk => by
    obtain ⟨N, hs⟩ := ok_node.1 H
    obtain ⟨c, hc, okc, hw⟩ := N.at (i := way ks k) (way_le _ _)
    have hcm : c ∈ cs := List.mem_of_getElem? hc
    have hg : cs.getD (way ks k) default = c := by rw [List.getD_eq_getElem?_getD, hc]; rfl
    have h6' : ks.length ≤ 6 := h6
    have szc := hs c hcm
    obtain ⟨ih1, ih2⟩ := put_ok (k := k) (v := v) (D := fun x => D x ∧ way ks x = way ks k) okc szc.2 (fun x hx => ⟨hD x (dom_node.2 (.inr ⟨c, hcm, hx⟩)), hw x hx⟩) ⟨hk, rfl⟩
    rw [puts, hg]
    -- keys of other kids are other keys
    have oth : ∀ j d, cs[j]? = some d → j ≠ way ks k → ∀ p ∈ toL h d, p.1 ≠ k := fun j d hj hne p hp e => hne (by rw [← (N.2.2 j d hj).2 _ (dom_of_toL hp), e])
    refine ⟨ih1.trans ⟨fun ⟨p, hp, e⟩ => ⟨p, toL_node.2 ⟨c, hcm, hp⟩, e⟩, fun ⟨p, hp, e⟩ => ?_⟩, ?_⟩
    · obtain ⟨d, hd, hp⟩ := toL_node.1 hp
      obtain ⟨j, hj⟩ := mem_at.1 hd
      by_cases hji : j = way ks k
      · subst hji; rw [hc] at hj; injection hj with hj; subst hj; exact ⟨p, hp, e⟩
      · exact absurd e (oth j d hj hji p hp)
    · have hl := N.1
      have hwl := way_le ks k
      generalize (putT h k v c).2.1 = c' at ih2 ⊢
      generalize (putT h k v c).2.2 = o at ih2 ⊢
      cases o with
      | none =>
        obtain ⟨q1, q2, q3, q4, q5⟩ := ih2
        have N2 := N.set (i := way ks k) q1 (fun x hx => (q4 x hx).2)
        refine (halves_node (lo := szT (h + 1) ((ks, cs) : Tr V (h + 1))) (D := D) N2 (fun d hd => ?_) (Nat.le_refl _) (by omega) (fun x hx => ?_)).congr fun p => ?_
        · rcases List.mem_or_eq_of_mem_set hd with hd | rfl
          · exact hs d hd
          · exact ⟨Nat.le_trans szc.1 q2, q3⟩
        · rcases dom_node.1 hx with hx2 | ⟨d, hd, hx2⟩
          · exact hD x (dom_node.2 (.inl hx2))
          · rcases List.mem_or_eq_of_mem_set hd with hd | rfl
            · exact hD x (dom_node.2 (.inr ⟨d, hd, hx2⟩))
            · exact (q4 x hx2).1
        · rw [toL_node]
          unfold PutM at q5 ⊢
          constructor
          · rintro ⟨d, hd, hp⟩
            obtain ⟨j, hj⟩ := mem_at.1 hd
            rw [List.getElem?_set] at hj
            split at hj
            · split at hj
              · injection hj with hj; subst hj
                exact ((q5 p).1 hp).imp id fun q => ⟨q.1, toL_node.2 ⟨c, hcm, q.2⟩⟩
              · cases hj
            · rename_i hne
              exact .inr ⟨oth j d hj (Ne.symm hne) p hp, toL_node.2 ⟨d, List.mem_of_getElem? hj, hp⟩⟩
          · have hin : c' ∈ cs.set (way ks k) c' := List.mem_iff_getElem.2 ⟨way ks k, by simp; omega, by simp⟩
            rintro (rfl | ⟨hne, hp⟩)
            · exact ⟨c', hin, (q5 _).2 (.inl rfl)⟩
            · obtain ⟨d, hd, hp⟩ := toL_node.1 hp
              obtain ⟨j, hj⟩ := mem_at.1 hd
              by_cases hji : j = way ks k
              · subst hji; rw [hc] at hj; injection hj with hj; subst hj
                exact ⟨c', hin, (q5 _).2 (.inr ⟨hne, hp⟩)⟩
              · exact ⟨d, mem_at.2 ⟨j, by rw [List.getElem?_set, if_neg (Ne.symm hji)]; exact hj⟩, hp⟩
      | some um =>
        obtain ⟨u, m⟩ := um
        obtain ⟨q1, q2, q3, q4, q5, q6, q7, q8⟩ := ih2
        have N2 := N.part (K := u) (way_le ks k) q1 q2 (fun x hx => ⟨(q5 x hx).2, (q5 x hx).1.2⟩) (fun x hx => ⟨(q6 x hx).2, (q6 x hx).1.2⟩) q7.2 (dom_ne q1 (by have := q3.1; omega))
        have hlen : (ks.insertIdx (way ks k) u).length = ks.length + 1 := by rw [List.length_insertIdx, if_pos hwl]
        have hmem : ∀ d, d ∈ (cs.set (way ks k) c').insertIdx (way ks k + 1) m ↔ d = m ∨ d ∈ cs.set (way ks k) c' := fun d => List.mem_insertIdx (by simp; omega)
        refine (halves_node (lo := szT (h + 1) ((ks, cs) : Tr V (h + 1))) (D := D) N2 (fun d hd => ?_) (by rw [hlen]; show ks.length ≤ _; omega) (by omega) (fun x hx => ?_)).congr fun p => ?_
        · rcases (hmem d).1 hd with rfl | hd
          · exact q4
          · rcases List.mem_or_eq_of_mem_set hd with hd | rfl
            · exact hs d hd
            · exact q3
        · rcases dom_node.1 hx with hx2 | ⟨d, hd, hx2⟩
          · rcases (List.mem_insertIdx hwl).1 hx2 with rfl | hx2
            · exact q7.1
            · exact hD x (dom_node.2 (.inl hx2))
          · rcases (hmem d).1 hd with rfl | hd
            · exact (q6 x hx2).1.1
            · rcases List.mem_or_eq_of_mem_set hd with hd | rfl
              · exact hD x (dom_node.2 (.inr ⟨d, hd, hx2⟩))
              · exact (q5 x hx2).1.1
        · rw [toL_node]
          unfold PutM at q8 ⊢
          constructor
          · rintro ⟨d, hd, hp⟩
            rcases (hmem d).1 hd with rfl | hd
            · exact ((q8 p).1 (.inr hp)).imp id fun q => ⟨q.1, toL_node.2 ⟨c, hcm, q.2⟩⟩
            · obtain ⟨j, hj⟩ := mem_at.1 hd
              rw [List.getElem?_set] at hj
              split at hj
              · split at hj
                · injection hj with hj; subst hj
                  exact ((q8 p).1 (.inl hp)).imp id fun q => ⟨q.1, toL_node.2 ⟨c, hcm, q.2⟩⟩
                · cases hj
              · rename_i hne
                exact .inr ⟨oth j d hj (Ne.symm hne) p hp, toL_node.2 ⟨d, List.mem_of_getElem? hj, hp⟩⟩
          · have hin : c' ∈ (cs.set (way ks k) c').insertIdx (way ks k + 1) m := (hmem c').2 (.inr (List.mem_iff_getElem.2 ⟨way ks k, by simp; omega, by simp⟩))
            have him : m ∈ (cs.set (way ks k) c').insertIdx (way ks k + 1) m := (hmem m).2 (.inl rfl)
            have fin : (p ∈ toL h c' ∨ p ∈ toL h m) → ∃ d, d ∈ (cs.set (way ks k) c').insertIdx (way ks k + 1) m ∧ p ∈ toL h d := fun q => q.elim (fun q => ⟨c', hin, q⟩) (fun q => ⟨m, him, q⟩)
            rintro (rfl | ⟨hne, hp⟩)
            · exact fin ((q8 _).2 (.inl rfl))
            · obtain ⟨d, hd, hp⟩ := toL_node.1 hp
              obtain ⟨j, hj⟩ := mem_at.1 hd
              by_cases hji : j = way ks k
              · subst hji; rw [hc] at hj; injection hj with hj; subst hj
                exact fin ((q8 _).2 (.inr ⟨hne, hp⟩))
              · exact ⟨d, (hmem d).2 (.inr (mem_at.2 ⟨j, by rw [List.getElem?_set, if_neg (Ne.symm hji)]; exact hj⟩)), hp⟩
/-! ### taking away -/
end
end Go.Bt

namespace Go.Gx
open Go.Bt
abbrev DK := Value × List UInt8
abbrev DP (V : Type) := Value × List UInt8 × V
def pk {V : Type} (d : DP V) : DK := (d.1, d.2.1)
def cI (d : DP Int) : List Value := [d.1, .int .i64 d.2.2]
def cK (d : DK) : List Value := [d.1]
def cN (p : Nat) : List Value := [ptr p 0]
theorem el_flat9 {α : Type} {f : α → List Value} {sz : Nat} {l : List α} {d : α} {e : Int} {i : Nat} (hp : 0 < sz) (hf : ∀ u ∈ l, (f u).length = sz) (he : e = (i : Int)) (h : i < l.length) : ∀ j u, (f (l.getD i d))[j]? = some u → (l.flatMap f)[e.toNat * sz + j]? = some u := by
  intro j u hu
  subst he
  have hm : l.getD i d ∈ l := getD_mem h
  have hj : j < sz := by have := (List.getElem?_eq_some_iff.1 hu).1; rwa [hf _ hm] at this
  rw [flat_get hp l hf, Int.toNat_natCast, Nat.mul_comm, Nat.mul_add_div hp, Nat.mul_add_mod, Nat.div_eq_of_lt hj, Nat.mod_eq_of_lt hj, Nat.add_zero]
  have : l[i]? = some (l.getD i d) := by simp [List.getD_eq_getElem?_getD, h]
  rw [this]; exact hu
theorem el_pI {D : List (DP Int)} {e : Int} {i : Nat} (he : e = (i : Int)) (h : i < D.length) : ∀ j u, ([(D.getD i default).1, .int .i64 (D.getD i default).2.2] : List Value)[j]? = some u → (D.flatMap cI)[e.toNat * 2 + j]? = some u := el_flat9 (f := cI) (d := default) (by decide) (fun _ _ => rfl) he h
theorem el_kd {D : List DK} {e : Int} {i : Nat} (he : e = (i : Int)) (h : i < D.length) : (D.flatMap cK)[e.toNat * 1 + 0]? = some (D.getD i default).1 := el_flat9 (f := cK) (d := default) (by decide) (fun _ _ => rfl) he h 0 _ rfl
theorem el_pn {D : List Nat} {e : Int} {i : Nat} (he : e = (i : Int)) (h : i < D.length) : (D.flatMap cN)[e.toNat * 1 + 0]? = some (ptr (D.getD i default) 0) := el_flat9 (f := cN) (d := default) (by decide) (fun _ _ => rfl) he h 0 _ rfl
theorem flat_len9 {α : Type} {f : α → List Value} {sz : Nat} (hf : ∀ u, (f u).length = sz) (l : List α) : (l.flatMap f).length = l.length * sz := by
  induction l with
  | nil => simp
  | cons a l ih => rw [List.flatMap_cons, List.length_append, hf, ih, List.length_cons, Nat.add_mul]; omega
theorem flat_take {α : Type} {f : α → List Value} {sz : Nat} (hf : ∀ u, (f u).length = sz) : ∀ (l : List α) (i : Nat), (l.flatMap f).take (i * sz) = (l.take i).flatMap f
  | l, 0 => by simp
  | [], i + 1 => by simp
  | a :: l, i + 1 => by
    rw [List.take_succ_cons, List.flatMap_cons, List.flatMap_cons, ← flat_take hf l i]
    have e : (i + 1) * sz = (f a).length + i * sz := by rw [hf, Nat.add_mul]; omega
    rw [e, List.take_length_add_append]
theorem flat_drop {α : Type} {f : α → List Value} {sz : Nat} (hf : ∀ u, (f u).length = sz) : ∀ (l : List α) (i : Nat), (l.flatMap f).drop (i * sz) = (l.drop i).flatMap f
  | l, 0 => by simp
  | [], i + 1 => by simp
  | a :: l, i + 1 => by
    rw [List.drop_succ_cons, List.flatMap_cons, ← flat_drop hf l i]
    have e : (i + 1) * sz = (f a).length + i * sz := by rw [hf, Nat.add_mul]; omega
    rw [e, List.drop_length_add_append]
theorem flat_one9 {α : Type} {f : α → List Value} (hf : ∀ u, (f u).all Value.oneCell' = true) (l : List α) : (l.flatMap f).all Value.oneCell' = true := by
  rw [List.all_flatMap, List.all_eq_true]; exact fun x _ => hf x
theorem flat_ins {α : Type} {f : α → List Value} {sz : Nat} (hf : ∀ u, (f u).length = sz) {l : List α} {i : Nat} (x : α) (hi : i ≤ l.length) : (l.flatMap f).take (i * sz) ++ f x ++ (l.flatMap f).drop (i * sz) = (l.insertIdx i x).flatMap f := by
  rw [flat_take hf, flat_drop hf, insIdx x hi]; simp
theorem one_pn (l : List Nat) : (l.flatMap cN).all Value.oneCell' = true := flat_one9 (fun _ => rfl) l
section
variable {w : World} {V : Type} {e sz : Nat}
theorem own_one {base n : Nat} {v : Value} {cs : List Value} (O : Own w base e sz v n cs) : v.oneCell' = true := by
  obtain ⟨_, _, _, rfl, _⟩ := O.rdw
  rfl
theorem own_cl {base n : Nat} {v : Value} {cs : List Value} (O : Own w base e sz v n cs) : v.cells.toList = [v] := by
  obtain ⟨_, _, _, rfl, _⟩ := O.rdw
  rfl
theorem one_kd {K l : List DK} (ks : ∀ x9 ∈ K, Own w 0 5 1 x9.1 x9.2.length (x9.2.map u8v)) (hl : ∀ x ∈ l, x ∈ K) : (l.flatMap cK).all Value.oneCell' = true := by
  rw [List.all_flatMap, List.all_eq_true]
  exact fun x hx => by simp [cK, own_one (ks x (hl x hx))]
theorem ks_one {D : List (DP V)} (ks : ∀ x9 ∈ D.map pk, Own w 0 5 1 x9.1 x9.2.length (x9.2.map u8v)) {x : DP V} (hx : x ∈ D) : x.1.oneCell' = true := own_one (ks _ (List.mem_map.2 ⟨x, hx, rfl⟩))
theorem one_pI {D l : List (DP Int)} (ks : ∀ x9 ∈ D.map pk, Own w 0 5 1 x9.1 x9.2.length (x9.2.map u8v)) (hl : ∀ x ∈ l, x ∈ D) : (l.flatMap cI).all Value.oneCell' = true := by
  rw [List.all_flatMap, List.all_eq_true]
  exact fun x hx => by simp only [cI, List.all_cons, List.all_nil, ks_one ks (hl x hx)]; rfl
end
/-! searching -/
theorem pos_hit_iff {ks : List Ky} (hs : Sorted ks) {x : Ky} : (∃ h : pos ks x < ks.length, ks[pos ks x] = x) ↔ x ∈ ks := by
  constructor
  · rintro ⟨h, e⟩; rw [← e]; exact List.getElem_mem h
  · exact fun h => pos_hit hs h
theorem pos_step {ks : List Ky} (hs : Sorted ks) {x : Ky} {m : Nat} (hm : m < ks.length) : (cmpT (ks.getD m []) x < 0 → m < pos ks x) ∧ (¬ cmpT (ks.getD m []) x < 0 → pos ks x ≤ m) := by
  have e : ks.getD m [] = ks[m] := by simp [List.getD_eq_getElem?_getD, hm]
  rw [e, cmpT_lt]
  have := pos_sorted hs (x := x) hm
  constructor
  · intro h; exact this.1 h
  · intro h; exact Nat.le_of_not_lt fun q => h (this.2 q)
theorem pos_found {ks : List Ky} (hs : Sorted ks) {x : Ky} {m : Nat} (hm : m = pos ks x) (hl : m < ks.length) : decide (cmpT (ks.getD m []) x = 0) = ks.contains x := by
  have e : ks.getD m [] = ks[m] := by simp [List.getD_eq_getElem?_getD, hl]
  rw [e, Bool.eq_iff_iff, decide_eq_true_eq, cmpT_zero, List.contains_iff_mem, ← pos_hit_iff hs]
  subst hm
  exact ⟨fun h => ⟨hl, h⟩, fun h => h.2⟩
theorem pos_miss {ks : List Ky} (hs : Sorted ks) {x : Ky} {m : Nat} (hm : m = pos ks x) (hl : ¬ m < ks.length) : ks.contains x = false := by
  rw [Bool.eq_false_iff]
  intro h
  obtain ⟨h1, _⟩ := (pos_hit_iff hs).2 (List.contains_iff_mem.1 h)
  omega
theorem getD_map9 {α β : Type} {f : α → β} {l : List α} {i : Nat} {d : α} {d2 : β} (h : i < l.length) : (l.map f).getD i d2 = f (l.getD i d) := by
  simp [List.getD_eq_getElem?_getD, h]
section
variable {V : Type} {D : List (DP V)} {K : List DK} {x : List UInt8} {m : Nat}
def kys (D : List (DP V)) : List Ky := (D.map Prod.snd).map Prod.fst
theorem kys_len : (kys D).length = D.length := by simp [kys]
theorem kys_at [Inhabited V] (hm : m < D.length) : (kys D).getD m [] = (D.getD m default).2.1 := by simp [kys, List.getD_eq_getElem?_getD, hm]
theorem pos_stepP [Inhabited V] (hs : Sorted (kys D)) (hm : m < D.length) : (cmpT (D.getD m default).2.1 x < 0 → m < pos (kys D) x) ∧ (¬ cmpT (D.getD m default).2.1 x < 0 → pos (kys D) x ≤ m) := by
  rw [← kys_at hm]; exact pos_step hs (by rw [kys_len]; exact hm)
theorem pos_foundP [Inhabited V] (hs : Sorted (kys D)) (hm : m = pos (kys D) x) (hl : m < D.length) : decide (cmpT (D.getD m default).2.1 x = 0) = (kys D).contains x := by
  rw [← kys_at hl]; exact pos_found hs hm (by rw [kys_len]; exact hl)
theorem pos_missP (hs : Sorted (kys D)) (hm : m = pos (kys D) x) (hl : ¬ m < D.length) : (kys D).contains x = false := pos_miss hs hm (by rw [kys_len]; exact hl)
theorem pos_leP : pos (kys D) x ≤ D.length := by rw [← kys_len (D := D)]; exact pos_le _ _
theorem pos_stepK (hs : Sorted (K.map Prod.snd)) (hm : m < K.length) : (cmpT (K.getD m default).2 x < 0 → m < pos (K.map Prod.snd) x) ∧ (¬ cmpT (K.getD m default).2 x < 0 → pos (K.map Prod.snd) x ≤ m) := by
  rw [← getD_map9 (f := Prod.snd) (d2 := []) hm]; exact pos_step hs (by simpa using hm)
theorem pos_foundK (hs : Sorted (K.map Prod.snd)) (hm : m = pos (K.map Prod.snd) x) (hl : m < K.length) : decide (cmpT (K.getD m default).2 x = 0) = (K.map Prod.snd).contains x := by
  rw [← getD_map9 (f := Prod.snd) (d2 := []) hl]; exact pos_found hs hm (by simpa using hl)
theorem pos_missK (hs : Sorted (K.map Prod.snd)) (hm : m = pos (K.map Prod.snd) x) (hl : ¬ m < K.length) : (K.map Prod.snd).contains x = false := pos_miss hs hm (by simpa using hl)
theorem pos_leK : pos (K.map Prod.snd) x ≤ K.length := by have := pos_le (K.map Prod.snd) x; simpa using this
theorem cI_len (u : DP Int) : (cI u).length = 2 := rfl
theorem cK_len (u : DK) : (cK u).length = 1 := rfl
theorem cN_len (u : Nat) : (cN u).length = 1 := rfl
end
theorem way_hit {ks : List Ky} (hs : Sorted ks) {x : Ky} (h : ks.contains x = true) : way ks x = pos ks x + 1 := by
  obtain ⟨h1, h2⟩ := pos_hit hs (List.contains_iff_mem.1 h)
  have a := way_sorted hs (x := x) h1
  have hp := List.pairwise_iff_getElem.1 hs
  have b := way_le ks x
  by_cases hq : pos ks x + 1 < way ks x
  · have c := way_sorted hs (x := x) (j := pos ks x + 1) (by omega)
    have d := hp (pos ks x) (pos ks x + 1) h1 (by omega) (by omega)
    grind
  · have : pos ks x < way ks x := a.1 (by rw [h2]; grind)
    omega
theorem way_miss {ks : List Ky} (hs : Sorted ks) {x : Ky} (h : ks.contains x = false) : way ks x = pos ks x := by
  have hn : ¬ x ∈ ks := fun q => by rw [List.contains_iff_mem.2 q] at h; cases h
  have b := way_le ks x
  have b2 := pos_le ks x
  rcases Nat.lt_trichotomy (way ks x) (pos ks x) with hq | hq | hq
  · have c := way_sorted hs (x := x) (j := way ks x) (by omega)
    have d := pos_sorted hs (x := x) (j := way ks x) (by omega)
    grind
  · exact hq
  · have c := way_sorted hs (x := x) (j := pos ks x) (by omega)
    have d := pos_sorted hs (x := x) (j := pos ks x) (by omega)
    have e : ks[pos ks x] = x := by grind
    exact absurd (by rw [← e]; exact List.getElem_mem _) hn
end Go.Gx

namespace Go.Proofs.Ytcpfdfejojghbaa
open Go.Gx

theorem us2 : (Try.prog.underlying 2).isSome = true := by kernel_rfl
theorem one2 : oneT Try.prog 2 = true := by kernel_rfl
theorem us3 : (Try.prog.underlying 3).isSome = true := by kernel_rfl
theorem one3 : oneT Try.prog 3 = true := by kernel_rfl
theorem size3 : (Try.prog.info? 3).map (·.size) = some 1 := by kernel_rfl
theorem us5 : (Try.prog.underlying 5).isSome = true := by kernel_rfl
theorem one5 : oneT Try.prog 5 = true := by kernel_rfl
theorem one9 : oneT Try.prog 9 = true := by kernel_rfl
theorem us26 : (Try.prog.underlying 26).isSome = true := by kernel_rfl
theorem one27 : oneT Try.prog 27 = true := by kernel_rfl
theorem slt27 : SlT Try.prog 27 5 (Value.int .u8 0) 1 1 := ⟨Try.underlying27, by kernel_rfl, rfl, by decide⟩
theorem slt33 : SlT Try.prog 33 37 (Value.int .u16 0) 1 2 := ⟨Try.underlying33, by kernel_rfl, rfl, by decide⟩
theorem us37 : (Try.prog.underlying 37).isSome = true := by kernel_rfl
theorem one37 : oneT Try.prog 37 = true := by kernel_rfl
theorem ptrt45 : Try.prog.underlying 45 = some (.pointer (Try.prog.pointee 45)) := by kernel_rfl
theorem one48 : oneT Try.prog 48 = true := by kernel_rfl
theorem slt48 : SlT Try.prog 48 51 (Value.agg #[(Value.slice none 0 0), (Value.int .i64 0)]) 2 32 := ⟨Try.underlying48, by kernel_rfl, rfl, by decide⟩
theorem size48 : (Try.prog.info? 48).map (·.size) = some 1 := by kernel_rfl
theorem zero48 : zeroT Try.prog 48 = some (Value.slice none 0 0) := by kernel_rfl
theorem agg51 : aggT Try.prog 51 = some 2 := by kernel_rfl
theorem fld51_0 : fieldT Try.prog 51 0 = some 0 := by kernel_rfl
theorem fld51_1 : fieldT Try.prog 51 1 = some 1 := by kernel_rfl
theorem size51 : (Try.prog.info? 51).map (·.size) = some 2 := by kernel_rfl
theorem zero51 : zeroT Try.prog 51 = some (Value.agg #[(Value.slice none 0 0), (Value.int .i64 0)]) := by kernel_rfl
theorem one69 : oneT Try.prog 69 = true := by kernel_rfl
theorem ptrt69 : Try.prog.underlying 69 = some (.pointer (Try.prog.pointee 69)) := by kernel_rfl
theorem size69 : (Try.prog.info? 69).map (·.size) = some 1 := by kernel_rfl
theorem fld71_0 : fieldT Try.prog 71 0 = some 0 := by kernel_rfl
theorem agg74 : aggT Try.prog 74 = some 3 := by kernel_rfl
theorem fld74_0 : fieldT Try.prog 74 0 = some 0 := by kernel_rfl
theorem fld74_1 : fieldT Try.prog 74 1 = some 1 := by kernel_rfl
theorem fld74_2 : fieldT Try.prog 74 2 = some 2 := by kernel_rfl
theorem eq74 (a0 b0 : Int) (a1 b1 : Int) (a2 b2 : List UInt8) : EqA Try.prog 74 [.int .i64 a0, .int .i64 a1, .string (bs a2)] [.int .i64 b0, .int .i64 b1, .string (bs b2)] (decide (a0 = b0 ∧ a1 = b1 ∧ a2 = b2)) := by
  have h : EqA Try.prog 74 [.int .i64 a0, .int .i64 a1, .string (bs a2)] [.int .i64 b0, .int .i64 b1, .string (bs b2)] (a0 == b0 && (a1 == b1 && ((bs a2).toList == (bs b2).toList && true))) := EqA.flat Try.underlying74 (by kernel_rfl) (by kernel_rfl) (by kernel_rfl)
  rw [show decide (a0 = b0 ∧ a1 = b1 ∧ a2 = b2) = (a0 == b0 && (a1 == b1 && ((bs a2).toList == (bs b2).toList && true))) from by rw [Bool.eq_iff_iff]; simp [bs_toList]]; exact h
theorem size74 : (Try.prog.info? 74).map (·.size) = some 3 := by kernel_rfl
theorem zero74 : zeroT Try.prog 74 = some (Value.agg #[(Value.int .i64 0), (Value.int .i64 0), (Value.string (bs []))]) := by kernel_rfl
theorem slt75 : SlT Try.prog 75 74 (Value.agg #[(Value.int .i64 0), (Value.int .i64 0), (Value.string (bs []))]) 3 32 := ⟨Try.underlying75, by kernel_rfl, rfl, by decide⟩
theorem one76 : oneT Try.prog 76 = true := by kernel_rfl
theorem slt76 : SlT Try.prog 76 37 (Value.int .u16 0) 1 2 := ⟨Try.underlying76, by kernel_rfl, rfl, by decide⟩
theorem slt77 : SlT Try.prog 77 76 (Value.slice none 0 0) 1 24 := ⟨Try.underlying77, by kernel_rfl, rfl, by decide⟩
theorem us79 : (Try.prog.underlying 79).isSome = true := by kernel_rfl
theorem one90 : oneT Try.prog 90 = true := by kernel_rfl
theorem slt90 : SlT Try.prog 90 27 (Value.slice none 0 0) 1 24 := ⟨Try.underlying90, by kernel_rfl, rfl, by decide⟩
theorem size90 : (Try.prog.info? 90).map (·.size) = some 1 := by kernel_rfl
theorem one113 : oneT Try.prog 113 = true := by kernel_rfl
theorem slt113 : SlT Try.prog 113 69 (Value.pointer none) 1 8 := ⟨Try.underlying113, by kernel_rfl, rfl, by decide⟩
theorem size113 : (Try.prog.info? 113).map (·.size) = some 1 := by kernel_rfl
theorem fld115_0 : fieldT Try.prog 115 0 = some 0 := by kernel_rfl
theorem fld115_1 : fieldT Try.prog 115 1 = some 1 := by kernel_rfl
theorem fld115_2 : fieldT Try.prog 115 2 = some 2 := by kernel_rfl
theorem ok22 : callOk Try.prog 22 = true := by kernel_rfl
theorem ok23 : callOk Try.prog 23 = true := by kernel_rfl
theorem ok24 : callOk Try.prog 24 = true := by kernel_rfl
theorem ok35 : callOk Try.prog 35 = true := by kernel_rfl
theorem ok36 : callOk Try.prog 36 = true := by kernel_rfl
theorem ok37 : callOk Try.prog 37 = true := by kernel_rfl
theorem ok38 : callOk Try.prog 38 = true := by kernel_rfl
theorem ok39 : callOk Try.prog 39 = true := by kernel_rfl
theorem ok41 : callOk Try.prog 41 = true := by kernel_rfl
theorem ok48 : callOk Try.prog 48 = true := by kernel_rfl
theorem ok49 : callOk Try.prog 49 = true := by kernel_rfl
theorem ok50 : callOk Try.prog 50 = true := by kernel_rfl
theorem ok52 : callOk Try.prog 52 = true := by kernel_rfl
theorem ok55 : callOk Try.prog 55 = true := by kernel_rfl
theorem ok56 : callOk Try.prog 56 = true := by kernel_rfl
theorem ok57 : callOk Try.prog 57 = true := by kernel_rfl
theorem ok58 : callOk Try.prog 58 = true := by kernel_rfl
theorem ok59 : callOk Try.prog 59 = true := by kernel_rfl
theorem ok60 : callOk Try.prog 60 = true := by kernel_rfl
theorem ok61 : callOk Try.prog 61 = true := by kernel_rfl
theorem ok62 : callOk Try.prog 62 = true := by kernel_rfl
theorem ok67 : callOk Try.prog 67 = true := by kernel_rfl
theorem ok81 : callOk Try.prog 81 = true := by kernel_rfl
theorem ok82 : callOk Try.prog 82 = true := by kernel_rfl
theorem ok83 : callOk Try.prog 83 = true := by kernel_rfl
theorem ok84 : callOk Try.prog 84 = true := by kernel_rfl
theorem ok85 : callOk Try.prog 85 = true := by kernel_rfl
theorem ok86 : callOk Try.prog 86 = true := by kernel_rfl
theorem ok89 : callOk Try.prog 89 = true := by kernel_rfl
theorem ok90 : callOk Try.prog 90 = true := by kernel_rfl
theorem ok91 : callOk Try.prog 91 = true := by kernel_rfl
theorem ok92 : callOk Try.prog 92 = true := by kernel_rfl
theorem ok95 : callOk Try.prog 95 = true := by kernel_rfl
theorem ok98 : callOk Try.prog 98 = true := by kernel_rfl
theorem ok113 : callOk Try.prog 113 = true := by kernel_rfl
theorem ok114 : callOk Try.prog 114 = true := by kernel_rfl
theorem ok119 : callOk Try.prog 119 = true := by kernel_rfl
theorem ok123 : callOk Try.prog 123 = true := by kernel_rfl
theorem mixed : Try.prog.follows .mixedOrders = true := by kernel_rfl
end Go.Proofs.Ytcpfdfejojghbaa

namespace Go.Proofs.Ytcpfdfejojghbaa
open Go.Gx Go.RowKit
attribute [local irreducible] wpList wpStill Code.wp Calls
theorem cmpB {l m : List UInt8} {v u : Value} {n k : Nat} {w : World} {L B L2 B2 : Nat} (hl : RdC w L B 1 v n (l.map u8v)) (hm : RdC w L2 B2 1 u k (m.map u8v)) : (callFunc 124 #[v, u]).run Try.prog w = .ok (.value (.int .i64 (cmpT l m))) w := by
  rw [run_callFunc_extern Try.func124 (by kernel_rfl) (by kernel_rfl) (by kernel_rfl) (e := Extern.BytealgCompare.compare) (by kernel_rfl), run_cmpB hl hm]
  rfl
open Go.Bt
theorem cmpK {l m : List UInt8} {v u : Value} {n k : Nat} {w : World} {L B L2 B2 : Nat} (hl : RdC w L B 1 v n (l.map u8v)) (hm : RdC w L2 B2 1 u k (m.map u8v)) : Ret Try.prog 95 #[v, u] w (fun v' w' => Below w.heap.size w w' ∧ v' = .int .i64 (cmpT l m)) := by
 have hb := Below.refl w.heap.size w
 refine enter (N := 8) Try.func95 rfl rfl (by simp) fun a0 hN hd hA => ?_
 have s0 : a0.tmps.getD 0 undef = v := hA 0 (by simp)
 have s1 : a0.tmps.getD 1 undef = u := hA 1 (by simp)
 clear hA
 refine seq_any fun K3 hK3 => one_reg (op_assign rfl ?_)
 refine reg_nil (hK3 _ _ (seq_any fun K4 hK4 => one_reg (op_move (ev_base hN rfl s0) (op_move (ev_base hN rfl s1) (op_ext2 (ev_hit hN rfl) (ev_hit hN rfl) (cmpB hl hm) ?_)))))
 refine op_assign (ev_hit hN rfl) (reg_nil (hK4 _ _ (wp_ret ?_)))
 refine ret1 rfl hd (ev_hit hN rfl) ⟨_, rfl, ?_⟩
 exact ⟨hb, rfl⟩

theorem find1I {l m : List UInt8} {v u : Value} {n k : Nat} {w : World} {L B L2 B2 : Nat} (hl : RdC w L B 1 v n (l.map u8v)) (hm : RdC w L2 B2 1 u k (m.map u8v)) {x : Int} : Ret Try.prog 114 #[(Value.agg #[v, (Value.int .i64 x)]), u] w (fun v' w' => Below w.heap.size w w' ∧ v' = .int .i64 (cmpT l m)) := by
 have hb := Below.refl w.heap.size w
 refine enter (N := 9) Try.func114 rfl rfl (by simp) fun a0 hN hd hA => ?_
 have s0 : a0.tmps.getD 0 undef = (Value.agg #[v, (Value.int .i64 x)]) := hA 0 (by simp)
 have s1 : a0.tmps.getD 1 undef = u := hA 1 (by simp)
 clear hA
 refine seq_any fun K3 hK3 => one_reg (op_box (cs := [v, (Value.int .i64 x)]) (ev_base hN rfl s0) rfl ?_)
 intro w4 b5 lo_b5 hi_b5 hB7 E6
 have z_w4 := E6.size
 have hb := below_step0 hb E6 hb.size
 refine op_assign rfl (reg_nil ?_)
 refine hK3 _ _ (seq_any fun K9 hK9 => one_reg (op_field fld51_0 (ev_hit hN rfl) (op_load1 (v := v) one27 (ev_hit hN rfl) (hB7.cell rfl) (op_move (ev_base hN rfl s1) (op_fn (vs := [v, u]) ok95 ⟨(ev_hit hN rfl), ⟨(ev_hit hN rfl), trivial⟩⟩ (cmpK (hl.keep0 E6) (hm.keep0 E6)) ?_)))))
 rintro _ w10 ⟨E11, rfl⟩
 have E11 := grown_of_below E11
 have z_w10 := E11.size
 have hb := below_step0 hb E11 hb.size
 refine op_assign (ev_hit hN rfl) (reg_nil (hK9 _ _ (wp_ret ?_)))
 refine ret1 rfl hd (ev_hit hN rfl) ⟨_, rfl, ?_⟩
 exact ⟨hb, rfl⟩

theorem bsK {D : List DK} {x : List UInt8} {v xv : Value} {w : World} (hl : RdC w 0 w.heap.size 1 v D.length (D.flatMap cK)) (hs : Sorted (D.map Prod.snd)) (hn : D.length ≤ 1000) {g : Nat} {fs cs : List Value} (hokg : callOk Try.prog g = true) (hf : ∀ i, i < D.length → ∀ w1, Below w.heap.size w w1 → Ret Try.prog g (fs ++ [(D.getD i default).1, xv] ++ cs).toArray w1 (fun v' w' => Below w1.heap.size w1 w' ∧ v' = .int .i64 (cmpT (D.getD i default).2 x))) : Ret Try.prog 98 #[v, xv, (Value.func (.func g) fs.toArray cs.toArray)] w (fun v' w' => Below w.heap.size w w' ∧ v' = .tuple #[.int .i64 ((pos (D.map Prod.snd) x : Nat) : Int), .bool ((D.map Prod.snd).contains x)]) := by
 have hb := Below.refl w.heap.size w
 refine enter (N := 49) Try.func98 rfl rfl (by simp) fun a0 hN hd hA => ?_
 have s0 : a0.tmps.getD 0 undef = v := hA 0 (by simp)
 have s1 : a0.tmps.getD 1 undef = xv := hA 1 (by simp)
 have s2 : a0.tmps.getD 2 undef = (Value.func (.func g) fs.toArray cs.toArray) := hA 2 (by simp)
 clear hA
 refine seq_any fun K4 hK4 => one_reg (op_assign rfl ?_)
 refine op_assign rfl (reg_nil (hK4 _ _ (seq_any fun K5 hK5 => one_reg (op_move (ev_base hN rfl s0) (op_len_rd Try.underlying90 (ev_hit hN rfl) hl ?_)))))
 refine op_assign (ev_hit hN rfl) (reg_nil (hK5 _ _ (seq_any fun K11 hK11 => one_reg ?_)))
 refine op_move (ev_hit hN rfl) (op_assign rfl (op_assign (ev_hit hN rfl) (reg_nil (hK11 _ _ (seq_any fun K12 hK12 => wp_block ?_)))))
 refine loop_m (fun mz_ az_ w' => ∃ (lo hi : Nat), mz_ = hi - lo ∧ (az_.tmps.getD 0 undef = v) ∧ (az_.tmps.getD 1 undef = xv) ∧ (az_.tmps.getD 2 undef = (Value.func (.func g) fs.toArray cs.toArray)) ∧ (az_.tmps.getD 6 undef = (Value.int .i64 0)) ∧ (az_.tmps.getD 7 undef = (Value.bool false)) ∧ (az_.tmps.getD 8 undef = (Value.int .i64 ((D.length : Nat) : Int))) ∧ (az_.tmps.getD 9 undef = (Value.int .i64 ((lo : Nat) : Int))) ∧ (az_.tmps.getD 10 undef = (Value.int .i64 ((hi : Nat) : Int))) ∧ (lo ≤ hi ∧ hi ≤ D.length) ∧ (lo ≤ pos (D.map Prod.snd) x ∧ pos (D.map Prod.snd) x ≤ hi) ∧ (Below w.heap.size w w') ∧ (w.heap.size ≤ w'.heap.size) ∧ (RdC w' 0 w.heap.size 1 v D.length (D.flatMap cK))) _ hN hd ⟨0, D.length, rfl, (sl_base hN rfl s0), (sl_base hN rfl s1), (sl_base hN rfl s2), (sl_hit hN rfl), (sl_hit hN rfl), (sl_hit hN rfl), (sl_hit hN rfl), (sl_hit hN rfl), (by omega), ⟨Nat.zero_le _, pos_leK⟩, hb, (Nat.le_refl _), hl⟩ ?_
 rintro _ a13 w13 hN13 hd13 ⟨lo, hi, rfl, s13_0, s13_1, s13_2, s13_6, s13_7, s13_8, s13_9, s13_10, hr, hp, hb, zl_w13, hl⟩
 have z_w13 := hb.size
 refine seq_any fun K14 hK14 => seq_any fun K15 hK15 => ?_
 refine one_reg (op_move (ev_base hN13 rfl s13_9) (op_move (ev_base hN13 rfl s13_10) (op_lss (ev_hit hN13 rfl) (ev_hit hN13 rfl) (fun c17 => ?_) (fun c17 => ?_))))
 ·
  refine reg_nil (hK15 _ _ (wp_cond_true (ev_hit hN13 rfl) (wp_skip (hK14 _ _ (wp_block ?_)))))
  refine seq_any fun K16 hK16 => one_reg (op_move (ev_base hN13 rfl s13_9) (op_move (ev_base hN13 rfl s13_10) (op_add (r := ((lo + hi : Nat) : Int)) (ev_hit hN13 rfl) (ev_hit hN13 rfl) ((add64 (by omega)).trans (by omega)) ?_)))
  refine op_conv (r := ((lo + hi : Nat) : Int)) (ev_hit hN13 rfl) us3 Try.underlying26 (wrap_u64 (by omega)) ?_
  refine op_shr (r := (((lo + hi) / 2 : Nat) : Int)) (ev_hit hN13 rfl) rfl (by decide) (shr_nat (j := 1) (by omega) (by decide)) ?_
  refine op_conv (r := (((lo + hi) / 2 : Nat) : Int)) (ev_hit hN13 rfl) us26 Try.underlying3 (wrap_i64 (by omega)) ?_
  refine op_assign (ev_hit hN13 rfl) (reg_nil ?_)
  refine hK16 _ _ (seq_any fun K18 hK18 => one_reg (op_move (ev_base hN13 rfl s13_2) (op_move (ev_base hN13 rfl s13_0) (op_move (ev_hit hN13 rfl) (op_index_rd slt90 (ev_hit hN13 rfl) hl (ev_hit hN13 rfl) (by omega) (by omega) ?_)))))
  intro b19 o20 h0b19 h1b19 hc21
  refine op_load1 (v := (D.getD ((lo + hi) / 2) default).1) one27 (ev_hit hN13 rfl) (by have := hc21 0 (D.getD ((lo + hi) / 2) default).1 (by decide) (el_kd (i := ((lo + hi) / 2)) (by omega) (by omega)); simpa using this) (op_move (ev_base hN13 rfl s13_1) (op_fnv (fs := fs) (vs := [(D.getD ((lo + hi) / 2) default).1, xv]) (cs := cs) (ev_hit hN13 rfl) hokg ⟨(ev_hit hN13 rfl), ⟨(ev_hit hN13 rfl), trivial⟩⟩ (hf ((lo + hi) / 2) (by omega) _ hb) ?_))
  rintro _ w22 ⟨E23, rfl⟩
  have E23 := grown_of_below E23
  have z_w22 := E23.size
  have hl := hl.keep0 E23
  have hb := below_step0 hb E23 hb.size
  refine op_lss (ev_hit hN13 rfl) rfl (fun c31 => ?_) (fun c31 => ?_)
  ·
   refine reg_nil (hK18 _ _ (wp_cond_true (ev_hit hN13 rfl) (one_reg (op_move (ev_hit hN13 rfl) (op_add (ev_hit hN13 rfl) rfl (add64 (by omega)) ?_)))))
   refine op_assign (ev_hit hN13 rfl) (reg_nil (blk_normal ?_))
   -- round 17T 31T
   exact loop_next _ hN13 hd13 ⟨(((lo + hi) / 2) + 1), hi, rfl, (sl_base hN13 rfl s13_0), (sl_base hN13 rfl s13_1), (sl_base hN13 rfl s13_2), (sl_base hN13 rfl s13_6), (sl_base hN13 rfl s13_7), (sl_base hN13 rfl s13_8), (sl_hit hN13 rfl).trans (congrArg (Value.int .i64) (by omega)), (sl_base hN13 rfl s13_10).trans (congrArg (Value.int .i64) (by omega)), (by omega), (by have q9 := (pos_stepK hs (m := ((lo + hi) / 2)) (by omega)).1 c31; omega), hb, (by omega), hl⟩ (by omega)
  ·
   refine reg_nil ?_
   refine hK18 _ _ (wp_cond_false (ev_hit hN13 rfl) (one_reg (op_move (ev_hit hN13 rfl) (op_assign (ev_hit hN13 rfl) (reg_nil (blk_normal ?_))))))
   -- round 17T 31F
   exact loop_next _ hN13 hd13 ⟨lo, ((lo + hi) / 2), rfl, (sl_base hN13 rfl s13_0), (sl_base hN13 rfl s13_1), (sl_base hN13 rfl s13_2), (sl_base hN13 rfl s13_6), (sl_base hN13 rfl s13_7), (sl_base hN13 rfl s13_8), (sl_base hN13 rfl s13_9).trans (congrArg (Value.int .i64) (by omega)), (sl_hit hN13 rfl).trans (congrArg (Value.int .i64) (by omega)), (by omega), (by have q9 := (pos_stepK hs (m := ((lo + hi) / 2)) (by omega)).2 c31; omega), hb, (by omega), hl⟩ (by omega)
 ·
  refine reg_nil (hK15 _ _ (wp_cond_false (ev_hit hN13 rfl) (wp_exit (then_exit (then_exit (blk_hit ?_))))))
  refine hK12 _ _ (seq_any fun K24 hK24 => ?_)
  refine one_reg (op_move (ev_base hN13 rfl s13_9) (op_move (ev_base hN13 rfl s13_9) (op_move (ev_base hN13 rfl s13_8) (op_lss (ev_hit hN13 rfl) (ev_hit hN13 rfl) (fun c38 => ?_) (fun c38 => ?_)))))
  ·
   refine op_move (ev_hit hN13 rfl) (g_true (j := 4) (dj := 39) (b := true) rfl rfl rfl (ev_hit hN13 rfl) ?_)
   refine op_move (ev_base hN13 rfl s13_2) (g_true (j := 4) (dj := 39) (b := true) rfl rfl rfl (ev_hit hN13 rfl) (op_move (ev_base hN13 rfl s13_0) (g_true (j := 4) (dj := 39) (b := true) rfl rfl rfl (ev_hit hN13 rfl) (op_move (ev_base hN13 rfl s13_9) (g_true (j := 4) (dj := 39) (b := true) rfl rfl rfl (ev_hit hN13 rfl) (op_index_rd slt90 (ev_hit hN13 rfl) hl (ev_hit hN13 rfl) (by omega) (by omega) ?_))))))
   intro b25 o28 h0b25 h1b25 hc29
   refine g_true (j := 4) (dj := 39) (b := true) rfl rfl rfl (ev_hit hN13 rfl) (op_load1 (v := (D.getD lo default).1) one27 (ev_hit hN13 rfl) (by have := hc29 0 (D.getD lo default).1 (by decide) (el_kd (i := lo) (by omega) (by omega)); simpa using this) (g_true (j := 4) (dj := 39) (b := true) rfl rfl rfl (ev_hit hN13 rfl) (op_move (ev_base hN13 rfl s13_1) (g_true (j := 4) (dj := 39) (b := true) rfl rfl rfl (ev_hit hN13 rfl) (op_fnv (fs := fs) (vs := [(D.getD lo default).1, xv]) (cs := cs) (ev_hit hN13 rfl) hokg ⟨(ev_hit hN13 rfl), ⟨(ev_hit hN13 rfl), trivial⟩⟩ (hf lo (by omega) _ hb) ?_)))))
   rintro _ w30 ⟨E32, rfl⟩
   have E32 := grown_of_below E32
   have z_w30 := E32.size
   have hl := hl.keep0 E32
   have hb := below_step0 hb E32 hb.size
   refine g_true (j := 4) (dj := 39) (b := true) rfl rfl rfl (ev_hit hN13 rfl) (op_eql (ev_hit hN13 rfl) rfl (fun c47 => ?_) (fun c47 => ?_))
   ·
    refine op_pick_t (ev_hit hN13 rfl) (ev_hit hN13 rfl) ?_
    refine op_assign (ev_hit hN13 rfl) (op_assign (ev_hit hN13 rfl) (reg_nil (hK24 _ _ (wp_ret ?_))))
    refine ret2 rfl hd13 (ev_hit hN13 rfl) (ev_hit hN13 rfl) ⟨_, rfl, ?_⟩
    have e9 : lo = pos (D.map Prod.snd) x := by omega
    have q9 : (D.map Prod.snd).contains x = _ := (pos_foundK hs e9 (by omega)).symm.trans (decide_eq_true c47)
    exact ⟨hb, by rw [q9, ← e9]⟩
   ·
    refine op_pick_t (ev_hit hN13 rfl) (ev_hit hN13 rfl) ?_
    refine op_assign (ev_hit hN13 rfl) (op_assign (ev_hit hN13 rfl) (reg_nil (hK24 _ _ (wp_ret ?_))))
    refine ret2 rfl hd13 (ev_hit hN13 rfl) (ev_hit hN13 rfl) ⟨_, rfl, ?_⟩
    have e9 : lo = pos (D.map Prod.snd) x := by omega
    have q9 : (D.map Prod.snd).contains x = _ := (pos_foundK hs e9 (by omega)).symm.trans (decide_eq_false c47)
    exact ⟨hb, by rw [q9, ← e9]⟩
  ·
   refine op_move (ev_hit hN13 rfl) (g_false (j := 4) (dj := 39) (b := true) rfl rfl rfl (ev_hit hN13 rfl) rfl rfl (g_false (j := 4) (dj := 39) (b := true) rfl rfl rfl (ev_hit hN13 rfl) rfl rfl ?_))
   refine g_false (j := 4) (dj := 39) (b := true) rfl rfl rfl (ev_hit hN13 rfl) rfl rfl (g_false (j := 4) (dj := 39) (b := true) rfl rfl rfl (ev_hit hN13 rfl) rfl rfl (g_false (j := 4) (dj := 39) (b := true) rfl rfl rfl (ev_hit hN13 rfl) rfl rfl (g_false (j := 4) (dj := 39) (b := true) rfl rfl rfl (ev_hit hN13 rfl) rfl rfl (g_false (j := 4) (dj := 39) (b := true) rfl rfl rfl (ev_hit hN13 rfl) rfl rfl (g_false (j := 4) (dj := 39) (b := true) rfl rfl rfl (ev_hit hN13 rfl) rfl rfl (op_pick_f (ev_hit hN13 rfl) rfl ?_))))))
   refine op_assign (ev_hit hN13 rfl) (op_assign (ev_hit hN13 rfl) (reg_nil (hK24 _ _ (wp_ret ?_))))
   refine ret2 rfl hd13 (ev_hit hN13 rfl) (ev_hit hN13 rfl) ⟨_, rfl, ?_⟩
   have e9 : lo = pos (D.map Prod.snd) x := by omega
   have q9 : (D.map Prod.snd).contains x = _ := pos_missK hs e9 (by omega)
   exact ⟨hb, by rw [q9, ← e9]; rfl⟩

theorem bsI {D : List (DP (Int))} {x : List UInt8} {v xv : Value} {w : World} (hl : RdC w 0 w.heap.size 2 v D.length (D.flatMap cI)) (hs : Sorted (kys D)) (hn : D.length ≤ 1000) {g : Nat} {fs cs : List Value} (hokg : callOk Try.prog g = true) (hf : ∀ i, i < D.length → ∀ w1, Below w.heap.size w w1 → Ret Try.prog g (fs ++ [(Value.agg #[(D.getD i default).1, (Value.int .i64 (D.getD i default).2.2)]), xv] ++ cs).toArray w1 (fun v' w' => Below w1.heap.size w1 w' ∧ v' = .int .i64 (cmpT (D.getD i default).2.1 x))) : Ret Try.prog 113 #[v, xv, (Value.func (.func g) fs.toArray cs.toArray)] w (fun v' w' => Below w.heap.size w w' ∧ v' = .tuple #[.int .i64 ((pos (kys D) x : Nat) : Int), .bool ((kys D).contains x)]) := by
 have hb := Below.refl w.heap.size w
 refine enter (N := 49) Try.func113 rfl rfl (by simp) fun a0 hN hd hA => ?_
 have s0 : a0.tmps.getD 0 undef = v := hA 0 (by simp)
 have s1 : a0.tmps.getD 1 undef = xv := hA 1 (by simp)
 have s2 : a0.tmps.getD 2 undef = (Value.func (.func g) fs.toArray cs.toArray) := hA 2 (by simp)
 clear hA
 refine seq_any fun K4 hK4 => one_reg (op_assign rfl ?_)
 refine op_assign rfl (reg_nil (hK4 _ _ (seq_any fun K5 hK5 => one_reg (op_move (ev_base hN rfl s0) (op_len_rd Try.underlying48 (ev_hit hN rfl) hl ?_)))))
 refine op_assign (ev_hit hN rfl) (reg_nil (hK5 _ _ (seq_any fun K11 hK11 => one_reg ?_)))
 refine op_move (ev_hit hN rfl) (op_assign rfl (op_assign (ev_hit hN rfl) (reg_nil (hK11 _ _ (seq_any fun K12 hK12 => wp_block ?_)))))
 refine loop_m (fun mz_ az_ w' => ∃ (lo hi : Nat), mz_ = hi - lo ∧ (az_.tmps.getD 0 undef = v) ∧ (az_.tmps.getD 1 undef = xv) ∧ (az_.tmps.getD 2 undef = (Value.func (.func g) fs.toArray cs.toArray)) ∧ (az_.tmps.getD 6 undef = (Value.int .i64 0)) ∧ (az_.tmps.getD 7 undef = (Value.bool false)) ∧ (az_.tmps.getD 8 undef = (Value.int .i64 ((D.length : Nat) : Int))) ∧ (az_.tmps.getD 9 undef = (Value.int .i64 ((lo : Nat) : Int))) ∧ (az_.tmps.getD 10 undef = (Value.int .i64 ((hi : Nat) : Int))) ∧ (lo ≤ hi ∧ hi ≤ D.length) ∧ (lo ≤ pos (kys D) x ∧ pos (kys D) x ≤ hi) ∧ (Below w.heap.size w w') ∧ (w.heap.size ≤ w'.heap.size) ∧ (RdC w' 0 w.heap.size 2 v D.length (D.flatMap cI))) _ hN hd ⟨0, D.length, rfl, (sl_base hN rfl s0), (sl_base hN rfl s1), (sl_base hN rfl s2), (sl_hit hN rfl), (sl_hit hN rfl), (sl_hit hN rfl), (sl_hit hN rfl), (sl_hit hN rfl), (by omega), ⟨Nat.zero_le _, pos_leP⟩, hb, (Nat.le_refl _), hl⟩ ?_
 rintro _ a13 w13 hN13 hd13 ⟨lo, hi, rfl, s13_0, s13_1, s13_2, s13_6, s13_7, s13_8, s13_9, s13_10, hr, hp, hb, zl_w13, hl⟩
 have z_w13 := hb.size
 refine seq_any fun K14 hK14 => seq_any fun K15 hK15 => ?_
 refine one_reg (op_move (ev_base hN13 rfl s13_9) (op_move (ev_base hN13 rfl s13_10) (op_lss (ev_hit hN13 rfl) (ev_hit hN13 rfl) (fun c17 => ?_) (fun c17 => ?_))))
 ·
  refine reg_nil (hK15 _ _ (wp_cond_true (ev_hit hN13 rfl) (wp_skip (hK14 _ _ (wp_block ?_)))))
  refine seq_any fun K16 hK16 => one_reg (op_move (ev_base hN13 rfl s13_9) (op_move (ev_base hN13 rfl s13_10) (op_add (r := ((lo + hi : Nat) : Int)) (ev_hit hN13 rfl) (ev_hit hN13 rfl) ((add64 (by omega)).trans (by omega)) ?_)))
  refine op_conv (r := ((lo + hi : Nat) : Int)) (ev_hit hN13 rfl) us3 Try.underlying26 (wrap_u64 (by omega)) ?_
  refine op_shr (r := (((lo + hi) / 2 : Nat) : Int)) (ev_hit hN13 rfl) rfl (by decide) (shr_nat (j := 1) (by omega) (by decide)) ?_
  refine op_conv (r := (((lo + hi) / 2 : Nat) : Int)) (ev_hit hN13 rfl) us26 Try.underlying3 (wrap_i64 (by omega)) ?_
  refine op_assign (ev_hit hN13 rfl) (reg_nil ?_)
  refine hK16 _ _ (seq_any fun K18 hK18 => one_reg (op_move (ev_base hN13 rfl s13_2) (op_move (ev_base hN13 rfl s13_0) (op_move (ev_hit hN13 rfl) (op_index_rd slt48 (ev_hit hN13 rfl) hl (ev_hit hN13 rfl) (by omega) (by omega) ?_)))))
  intro b19 o20 h0b19 h1b19 hc21
  refine op_loadA (cs := [(D.getD ((lo + hi) / 2) default).1, (Value.int .i64 (D.getD ((lo + hi) / 2) default).2.2)]) agg51 rfl (ev_hit hN13 rfl) (fun j u hu => hc21 j u (by have := (List.getElem?_eq_some_iff.1 hu).1; simpa using this) ((el_pI (i := ((lo + hi) / 2)) (by omega) (by omega)) j u hu)) ?_
  refine op_move (ev_base hN13 rfl s13_1) (op_fnv (fs := fs) (vs := [(Value.agg #[(D.getD ((lo + hi) / 2) default).1, (Value.int .i64 (D.getD ((lo + hi) / 2) default).2.2)]), xv]) (cs := cs) (ev_hit hN13 rfl) hokg ⟨(ev_hit hN13 rfl), ⟨(ev_hit hN13 rfl), trivial⟩⟩ (hf ((lo + hi) / 2) (by omega) _ hb) ?_)
  rintro _ w22 ⟨E23, rfl⟩
  have E23 := grown_of_below E23
  have z_w22 := E23.size
  have hl := hl.keep0 E23
  have hb := below_step0 hb E23 hb.size
  refine op_lss (ev_hit hN13 rfl) rfl (fun c31 => ?_) (fun c31 => ?_)
  ·
   refine reg_nil (hK18 _ _ (wp_cond_true (ev_hit hN13 rfl) (one_reg (op_move (ev_hit hN13 rfl) (op_add (ev_hit hN13 rfl) rfl (add64 (by omega)) ?_)))))
   refine op_assign (ev_hit hN13 rfl) (reg_nil (blk_normal ?_))
   -- round 17T 31T
   exact loop_next _ hN13 hd13 ⟨(((lo + hi) / 2) + 1), hi, rfl, (sl_base hN13 rfl s13_0), (sl_base hN13 rfl s13_1), (sl_base hN13 rfl s13_2), (sl_base hN13 rfl s13_6), (sl_base hN13 rfl s13_7), (sl_base hN13 rfl s13_8), (sl_hit hN13 rfl).trans (congrArg (Value.int .i64) (by omega)), (sl_base hN13 rfl s13_10).trans (congrArg (Value.int .i64) (by omega)), (by omega), (by have q9 := (pos_stepP hs (m := ((lo + hi) / 2)) (by omega)).1 c31; omega), hb, (by omega), hl⟩ (by omega)
  ·
   refine reg_nil ?_
   refine hK18 _ _ (wp_cond_false (ev_hit hN13 rfl) (one_reg (op_move (ev_hit hN13 rfl) (op_assign (ev_hit hN13 rfl) (reg_nil (blk_normal ?_))))))
   -- round 17T 31F
   exact loop_next _ hN13 hd13 ⟨lo, ((lo + hi) / 2), rfl, (sl_base hN13 rfl s13_0), (sl_base hN13 rfl s13_1), (sl_base hN13 rfl s13_2), (sl_base hN13 rfl s13_6), (sl_base hN13 rfl s13_7), (sl_base hN13 rfl s13_8), (sl_base hN13 rfl s13_9).trans (congrArg (Value.int .i64) (by omega)), (sl_hit hN13 rfl).trans (congrArg (Value.int .i64) (by omega)), (by omega), (by have q9 := (pos_stepP hs (m := ((lo + hi) / 2)) (by omega)).2 c31; omega), hb, (by omega), hl⟩ (by omega)
 ·
  refine reg_nil (hK15 _ _ (wp_cond_false (ev_hit hN13 rfl) (wp_exit (then_exit (then_exit (blk_hit ?_))))))
  refine hK12 _ _ (seq_any fun K24 hK24 => ?_)
  refine one_reg (op_move (ev_base hN13 rfl s13_9) (op_move (ev_base hN13 rfl s13_9) (op_move (ev_base hN13 rfl s13_8) (op_lss (ev_hit hN13 rfl) (ev_hit hN13 rfl) (fun c38 => ?_) (fun c38 => ?_)))))
  ·
   refine op_move (ev_hit hN13 rfl) (g_true (j := 4) (dj := 39) (b := true) rfl rfl rfl (ev_hit hN13 rfl) ?_)
   refine op_move (ev_base hN13 rfl s13_2) (g_true (j := 4) (dj := 39) (b := true) rfl rfl rfl (ev_hit hN13 rfl) (op_move (ev_base hN13 rfl s13_0) (g_true (j := 4) (dj := 39) (b := true) rfl rfl rfl (ev_hit hN13 rfl) (op_move (ev_base hN13 rfl s13_9) (g_true (j := 4) (dj := 39) (b := true) rfl rfl rfl (ev_hit hN13 rfl) (op_index_rd slt48 (ev_hit hN13 rfl) hl (ev_hit hN13 rfl) (by omega) (by omega) ?_))))))
   intro b25 o27 h0b25 h1b25 hc28
   refine g_true (j := 4) (dj := 39) (b := true) rfl rfl rfl (ev_hit hN13 rfl) (op_loadA (cs := [(D.getD lo default).1, (Value.int .i64 (D.getD lo default).2.2)]) agg51 rfl (ev_hit hN13 rfl) (fun j u hu => hc28 j u (by have := (List.getElem?_eq_some_iff.1 hu).1; simpa using this) ((el_pI (i := lo) (by omega) (by omega)) j u hu)) ?_)
   refine g_true (j := 4) (dj := 39) (b := true) rfl rfl rfl (ev_hit hN13 rfl) (op_move (ev_base hN13 rfl s13_1) (g_true (j := 4) (dj := 39) (b := true) rfl rfl rfl (ev_hit hN13 rfl) (op_fnv (fs := fs) (vs := [(Value.agg #[(D.getD lo default).1, (Value.int .i64 (D.getD lo default).2.2)]), xv]) (cs := cs) (ev_hit hN13 rfl) hokg ⟨(ev_hit hN13 rfl), ⟨(ev_hit hN13 rfl), trivial⟩⟩ (hf lo (by omega) _ hb) ?_)))
   rintro _ w29 ⟨E30, rfl⟩
   have E30 := grown_of_below E30
   have z_w29 := E30.size
   have hl := hl.keep0 E30
   have hb := below_step0 hb E30 hb.size
   refine g_true (j := 4) (dj := 39) (b := true) rfl rfl rfl (ev_hit hN13 rfl) (op_eql (ev_hit hN13 rfl) rfl (fun c47 => ?_) (fun c47 => ?_))
   ·
    refine op_pick_t (ev_hit hN13 rfl) (ev_hit hN13 rfl) ?_
    refine op_assign (ev_hit hN13 rfl) (op_assign (ev_hit hN13 rfl) (reg_nil (hK24 _ _ (wp_ret ?_))))
    refine ret2 rfl hd13 (ev_hit hN13 rfl) (ev_hit hN13 rfl) ⟨_, rfl, ?_⟩
    have e9 : lo = pos (kys D) x := by omega
    have q9 : (kys D).contains x = _ := (pos_foundP hs e9 (by omega)).symm.trans (decide_eq_true c47)
    exact ⟨hb, by rw [q9, ← e9]⟩
   ·
    refine op_pick_t (ev_hit hN13 rfl) (ev_hit hN13 rfl) ?_
    refine op_assign (ev_hit hN13 rfl) (op_assign (ev_hit hN13 rfl) (reg_nil (hK24 _ _ (wp_ret ?_))))
    refine ret2 rfl hd13 (ev_hit hN13 rfl) (ev_hit hN13 rfl) ⟨_, rfl, ?_⟩
    have e9 : lo = pos (kys D) x := by omega
    have q9 : (kys D).contains x = _ := (pos_foundP hs e9 (by omega)).symm.trans (decide_eq_false c47)
    exact ⟨hb, by rw [q9, ← e9]⟩
  ·
   refine op_move (ev_hit hN13 rfl) (g_false (j := 4) (dj := 39) (b := true) rfl rfl rfl (ev_hit hN13 rfl) rfl rfl (g_false (j := 4) (dj := 39) (b := true) rfl rfl rfl (ev_hit hN13 rfl) rfl rfl ?_))
   refine g_false (j := 4) (dj := 39) (b := true) rfl rfl rfl (ev_hit hN13 rfl) rfl rfl (g_false (j := 4) (dj := 39) (b := true) rfl rfl rfl (ev_hit hN13 rfl) rfl rfl (g_false (j := 4) (dj := 39) (b := true) rfl rfl rfl (ev_hit hN13 rfl) rfl rfl (g_false (j := 4) (dj := 39) (b := true) rfl rfl rfl (ev_hit hN13 rfl) rfl rfl (g_false (j := 4) (dj := 39) (b := true) rfl rfl rfl (ev_hit hN13 rfl) rfl rfl (g_false (j := 4) (dj := 39) (b := true) rfl rfl rfl (ev_hit hN13 rfl) rfl rfl (op_pick_f (ev_hit hN13 rfl) rfl ?_))))))
   refine op_assign (ev_hit hN13 rfl) (op_assign (ev_hit hN13 rfl) (reg_nil (hK24 _ _ (wp_ret ?_))))
   refine ret2 rfl hd13 (ev_hit hN13 rfl) (ev_hit hN13 rfl) ⟨_, rfl, ?_⟩
   have e9 : lo = pos (kys D) x := by omega
   have q9 : (kys D).contains x = _ := pos_missP hs e9 (by omega)
   exact ⟨hb, by rw [q9, ← e9]; rfl⟩

end Go.Proofs.Ytcpfdfejojghbaa

namespace Go.Gx
open Go.Bt Go.RowKit
structure Kd (V : Type) where
  ce : DP V → List Value
  pc : Nat
  tB : Nat
  tP : Nat
  tN : Nat
def kI : Kd Int := ⟨cI, 2, 115, 51, 69⟩
abbrev nilV : Value := .slice none 0 0
section
variable {V : Type} {κ : Kd V} {w w' : World} {F G H W R : Nat → Prop} {base e sz n b t : Nat} {v : Value} {cs : List Value}
def TyF (κ : Kd V) (w : World) (F : Nat → Prop) : Prop := ∀ k, F k → ∃ cur t fr, w.heap[k]? = some (.cells cur t fr) ∧ (t = κ.tB ∨ t = κ.tP ∨ t = 27 ∨ t = κ.tN)
def NoK (w : World) (H : Nat → Prop) : Prop := ∀ k, H k → ∀ cur fr, w.heap[k]? ≠ some (.cells cur 5 fr)
theorem TyF.lt (h : TyF κ w F) : ∀ k, F k → k < w.heap.size := fun k hk => by
  obtain ⟨_, _, _, hg, _⟩ := h k hk
  exact (Array.getElem?_eq_some_iff.1 hg).1
theorem TyF.keepG (h : TyF κ w F) (E : Gr w w' H) (hd : Dj F H) : TyF κ w' F := fun k hk => by
  obtain ⟨cur, t, fr, hg, ht⟩ := h k hk
  exact ⟨cur, t, fr, by rw [E.block k (h.lt k hk) (hd k hk)]; exact hg, ht⟩
theorem TyF.or (h : TyF κ w F) (h2 : TyF κ w G) : TyF κ w (fun k => F k ∨ G k) := fun k hk => hk.elim (h k) (h2 k)
theorem TyF.ofOwn (O : Own w base e sz v n cs) (he : e = κ.tB ∨ e = κ.tP ∨ e = 27 ∨ e = κ.tN) : TyF κ w (Bl v) := fun k hk => by
  rcases O.2 with ⟨rfl, _⟩ | ⟨g, off, cap, cur, fr, rfl, _, hg, _⟩
  · simp [Bl, Value.ownBlock] at hk
  · have : g = k := by simpa [Bl, Value.ownBlock] using hk
    subst this
    exact ⟨_, _, _, hg, he⟩
theorem TyF.ofBx (h : Bx w b t cs) (he : t = κ.tB ∨ t = κ.tP ∨ t = 27 ∨ t = κ.tN) : TyF κ w (fun k => k = b) := fun k hk => by subst hk; exact ⟨_, _, _, h, he⟩
theorem TyF.notOwn (h : TyF κ w F) (O : Own w base e sz v n cs) (h1 : e ≠ κ.tB) (h2 : e ≠ κ.tP) (h3 : e ≠ 27) (h4 : e ≠ κ.tN) : Dj F (Bl v) := fun k hf hk => by
  obtain ⟨cur, t, fr, hg, ht⟩ := h k hf
  rcases O.2 with ⟨rfl, _⟩ | ⟨g, off, cap, cur2, fr2, rfl, _, hg2, _⟩
  · simp [Bl, Value.ownBlock] at hk
  · have : g = k := by simpa [Bl, Value.ownBlock] using hk
    subst this
    rw [hg] at hg2
    simp only [Option.some.injEq, Obj.cells.injEq] at hg2
    obtain ⟨_, q, _⟩ := hg2
    rcases ht with ht | ht | ht | ht
    · exact h1 (q.symm.trans ht)
    · exact h2 (q.symm.trans ht)
    · exact h3 (q.symm.trans ht)
    · exact h4 (q.symm.trans ht)
theorem TyF.notBx (h : TyF κ w F) (B : Bx w b t cs) (h1 : t ≠ κ.tB) (h2 : t ≠ κ.tP) (h3 : t ≠ 27) (h4 : t ≠ κ.tN) : ¬ F b := fun hf => by
  obtain ⟨cur, t2, fr, hg, ht⟩ := h b hf
  have B' : w.heap[b]? = some (.cells cs.toArray t (0, 0)) := B
  rw [hg] at B'
  simp only [Option.some.injEq, Obj.cells.injEq] at B'
  obtain ⟨_, q, _⟩ := B'
  rcases ht with ht | ht | ht | ht
  · exact h1 (q.symm.trans ht)
  · exact h2 (q.symm.trans ht)
  · exact h3 (q.symm.trans ht)
  · exact h4 (q.symm.trans ht)
def Kd.fine (κ : Kd V) : Prop := κ.tB ≠ 5 ∧ κ.tP ≠ 5 ∧ κ.tN ≠ 5
theorem TyF.noK (h : TyF κ w F) (hf : κ.fine) : NoK w F := fun k hk cur fr hg => by
  obtain ⟨cur, t, fr, hg2, ht⟩ := h k hk
  rw [hg] at hg2
  simp only [Option.some.injEq, Obj.cells.injEq] at hg2
  obtain ⟨_, q, _⟩ := hg2
  obtain ⟨f1, f2, f3⟩ := hf
  rcases ht with ht | ht | ht | ht
  · exact f1 (ht.symm.trans q.symm)
  · exact f2 (ht.symm.trans q.symm)
  · exact absurd (ht.symm.trans q.symm) (by decide)
  · exact f3 (ht.symm.trans q.symm)
theorem NoK.no (w : World) : NoK w NoB := fun _ h => h.elim
theorem NoK.ofOwn (O : Own w base e sz v n cs) (he : e ≠ 5) : NoK w (Bl v) := fun k hk cur fr hg => by
  rcases O.2 with ⟨rfl, _⟩ | ⟨g, off, cap, cur2, fr2, rfl, _, hg2, _⟩
  · simp [Bl, Value.ownBlock] at hk
  · have : g = k := by simpa [Bl, Value.ownBlock] using hk
    subst this
    rw [hg] at hg2
    simp only [Option.some.injEq, Obj.cells.injEq] at hg2
    exact he hg2.2.1.symm
theorem NoK.ofBx (h : Bx w b t cs) (he : t ≠ 5) : NoK w (fun k => some b = some k) := fun k hk cur fr hg => by
  injection hk with hk; subst hk
  have h' : w.heap[b]? = some (.cells cs.toArray t (0, 0)) := h
  rw [hg] at h'
  simp only [Option.some.injEq, Obj.cells.injEq] at h'
  exact he h'.2.1.symm
theorem NoK.key {l : List UInt8} (h : NoK w H) (O : Own w base 5 1 v n (l.map u8v)) : Dj (Bl v) H := fun k hk hh => by
  rcases O.2 with ⟨rfl, _⟩ | ⟨g, off, cap, cur2, fr2, rfl, _, hg2, _⟩
  · simp [Bl, Value.ownBlock] at hk
  · have : g = k := by simpa [Bl, Value.ownBlock] using hk
    subst this
    exact h _ hh _ _ hg2
/-! kids: one object each, all apart -/
variable {α : Type} {A B : Nat → α → (Nat → Prop) → Prop} {P : List Nat} {ts : List α} {i p q : Nat} {c d : α} {f g : Nat → Prop}
def Kids (A : Nat → α → (Nat → Prop) → Prop) (P : List Nat) (ts : List α) (G : Nat → Prop) : Prop :=
  ∃ L : List (Nat × α × (Nat → Prop)), P = L.map (·.1) ∧ ts = L.map (·.2.1) ∧ (∀ x ∈ L, A x.1 x.2.1 x.2.2) ∧ L.Pairwise (fun x y => Dj x.2.2 y.2.2) ∧ ∀ k, G k ↔ ∃ x ∈ L, x.2.2 k
theorem Kids.len (K : Kids A P ts G) : P.length = ts.length := by obtain ⟨L, rfl, rfl, _⟩ := K; simp
theorem Kids.nil (A : Nat → α → (Nat → Prop) → Prop) : Kids A [] [] NoB := ⟨[], rfl, rfl, fun _ h => (by cases h), List.Pairwise.nil, fun k => ⟨fun h => h.elim, fun ⟨_, h, _⟩ => by cases h⟩⟩
theorem Kids.imp (K : Kids A P ts G) (h : ∀ q d g, A q d g → (∀ k, g k → G k) → B q d g) : Kids B P ts G := by
  obtain ⟨L, h1, h2, h3, h4, h5⟩ := K
  exact ⟨L, h1, h2, fun x hx => h _ _ _ (h3 x hx) (fun k hk => (h5 k).2 ⟨x, hx, hk⟩), h4, h5⟩
theorem Kids.all (K : Kids A P ts G) {Q : Nat → Prop} (h : ∀ q d g, A q d g → ∀ k, g k → Q k) : ∀ k, G k → Q k := by
  obtain ⟨L, h1, h2, h3, h4, h5⟩ := K
  intro k hk
  obtain ⟨x, hx, hxk⟩ := (h5 k).1 hk
  exact h _ _ _ (h3 x hx) k hxk
theorem map_erase9 {α β : Type} {f : α → β} {l : List α} {i : Nat} : (l.map f).eraseIdx i = (l.eraseIdx i).map f := by
  rw [List.eraseIdx_eq_take_drop_succ, List.eraseIdx_eq_take_drop_succ, List.map_append, List.map_take, List.map_drop]
theorem map_ins9 {α β : Type} {f : α → β} {l : List α} {i : Nat} {x : α} (hi : i ≤ l.length) : (l.map f).insertIdx i (f x) = (l.insertIdx i x).map f := by
  rw [insIdx _ (by simpa using hi), insIdx _ hi, List.map_append, List.map_cons, List.map_take, List.map_drop]
theorem Kids.cut1 (K : Kids A P ts G) (hi : i < ts.length) : ∃ f G0, A (P.getD i default) (ts[i]) f ∧ Kids A (P.eraseIdx i) (ts.eraseIdx i) G0 ∧ Dj f G0 ∧ (∀ k, f k → G k) ∧ (∀ k, G0 k → G k) := by
  obtain ⟨L, rfl, rfl, h3, h4, h5⟩ := K
  have hl : i < L.length := by simpa using hi
  have hs : L = L.take i ++ L[i] :: L.drop (i + 1) := by rw [← List.drop_eq_getElem_cons hl, List.take_append_drop]
  have hp := h4
  rw [hs, List.pairwise_append, List.pairwise_cons] at hp
  obtain ⟨p1, ⟨p2, p3⟩, p4⟩ := hp
  refine ⟨L[i].2.2, fun k => ∃ x ∈ L.eraseIdx i, x.2.2 k, ?_, ⟨L.eraseIdx i, map_erase9, map_erase9, fun x hx => h3 x (List.mem_of_mem_eraseIdx hx), h4.sublist (List.eraseIdx_sublist _ _), fun k => Iff.rfl⟩, ?_, fun k hk => (h5 k).2 ⟨_, List.getElem_mem hl, hk⟩, fun k ⟨x, hx, hk⟩ => (h5 k).2 ⟨x, List.mem_of_mem_eraseIdx hx, hk⟩⟩
  · have := h3 _ (List.getElem_mem hl)
    simpa [List.getD_eq_getElem?_getD, hl] using this
  · rintro k hk ⟨x, hx, hxk⟩
    rw [List.eraseIdx_eq_take_drop_succ, List.mem_append] at hx
    rcases hx with hx | hx
    · exact p4 x hx _ (List.mem_cons_self ..) k hxk hk
    · exact p2 x hx k hk hxk
theorem Kids.ins (K : Kids A P ts G) (hi : i ≤ ts.length) (hA : A p c f) (hd : Dj f G) : Kids A (P.insertIdx i p) (ts.insertIdx i c) (fun k => f k ∨ G k) := by
  obtain ⟨L, rfl, rfl, h3, h4, h5⟩ := K
  have hl : i ≤ L.length := by simpa using hi
  have hm : ∀ x, x ∈ L ↔ x ∈ L.take i ∨ x ∈ L.drop i := fun x => by rw [← List.mem_append, List.take_append_drop]
  have e : L.insertIdx i (p, c, f) = L.take i ++ (p, c, f) :: L.drop i := insIdx _ hl
  have hp := h4
  rw [← List.take_append_drop i L, List.pairwise_append] at hp
  refine ⟨L.insertIdx i (p, c, f), map_ins9 (f := fun x : Nat × α × (Nat → Prop) => x.1) (x := (p, c, f)) hl, map_ins9 (f := fun x : Nat × α × (Nat → Prop) => x.2.1) (x := (p, c, f)) hl, fun x hx => ?_, ?_, fun k => ?_⟩
  · rw [e, List.mem_append, List.mem_cons] at hx
    rcases hx with hx | rfl | hx
    · exact h3 x ((hm x).2 (.inl hx))
    · exact hA
    · exact h3 x ((hm x).2 (.inr hx))
  · rw [e, List.pairwise_append, List.pairwise_cons]
    refine ⟨hp.1, ⟨fun y hy k hk hyk => hd k hk ((h5 k).2 ⟨y, (hm y).2 (.inr hy), hyk⟩), hp.2.1⟩, fun x hx y hy => ?_⟩
    rcases List.mem_cons.1 hy with rfl | hy
    · exact fun k hxk hk => hd k hk ((h5 k).2 ⟨x, (hm x).2 (.inl hx), hxk⟩)
    · exact hp.2.2 x hx y hy
  · rw [e]
    constructor
    · rintro (hk | hk)
      · exact ⟨_, List.mem_append_right _ (List.mem_cons_self ..), hk⟩
      · obtain ⟨x, hx, hxk⟩ := (h5 k).1 hk
        rcases (hm x).1 hx with hx | hx
        · exact ⟨x, List.mem_append_left _ hx, hxk⟩
        · exact ⟨x, List.mem_append_right _ (List.mem_cons_of_mem _ hx), hxk⟩
    · rintro ⟨x, hx, hxk⟩
      rw [List.mem_append, List.mem_cons] at hx
      rcases hx with hx | rfl | hx
      · exact .inr ((h5 k).2 ⟨x, (hm x).2 (.inl hx), hxk⟩)
      · exact .inl hxk
      · exact .inr ((h5 k).2 ⟨x, (hm x).2 (.inr hx), hxk⟩)
theorem ins_erase {α : Type} {l : List α} {i : Nat} (x : α) (hi : i < l.length) : (l.eraseIdx i).insertIdx i x = l.set i x := by
  rw [insIdx _ (by rw [List.length_eraseIdx, if_pos hi]; omega), List.eraseIdx_eq_take_drop_succ, List.set_eq_take_append_cons_drop, if_pos hi]
  have hl : (l.take i).length = i := by rw [List.length_take]; omega
  rw [List.take_append_of_le_length (by omega), List.take_of_length_le (by omega), List.drop_append, hl, Nat.sub_self, List.drop_zero, List.drop_eq_nil_of_le (by omega), List.nil_append]
theorem set_getD {l : List Nat} {i : Nat} (hi : i < l.length) : l.set i (l.getD i default) = l := by
  apply List.ext_getElem?
  intro j
  rw [List.getElem?_set]
  split
  · rename_i e; subst e; simp [List.getD_eq_getElem?_getD, hi]
  · rfl
theorem Kids.back1 (K : Kids A (P.eraseIdx i) (ts.eraseIdx i) G) (hl : P.length = ts.length) (hi : i < ts.length) (hA : A (P.getD i default) c f) (hd : Dj f G) : Kids A P (ts.set i c) (fun k => f k ∨ G k) := by
  have := K.ins (i := i) (by rw [List.length_eraseIdx, if_pos hi]; omega) hA hd
  rwa [ins_erase _ (by omega), ins_erase _ hi, set_getD (by omega)] at this
/-! trees -/
structure LeafR (κ : Kd V) (R : Nat → Prop) (w : World) (p : Nat) (pv : Value) (D : List (DP V)) (W : Nat → Prop) : Prop where
  bx : Bx w p κ.tB [pv, nilV, nilV]
  op : Own w 0 κ.tP κ.pc pv D.length (D.flatMap κ.ce)
  ks : ∀ x9 ∈ D.map pk, Own w 0 5 1 x9.1 x9.2.length (x9.2.map u8v)
  kr : ∀ x9 ∈ D.map pk, ∀ k, Bl x9.1 k → R k
  wp : W p
  wv : ∀ k, Bl pv k → W k
  ty : TyF κ w W
structure NodeR (κ : Kd V) (R : Nat → Prop) (w : World) (p : Nat) (kv cv : Value) (K : List DK) (P : List Nat) (G W : Nat → Prop) : Prop where
  bx : Bx w p κ.tB [nilV, kv, cv]
  ok : Own w 0 27 1 kv K.length (K.flatMap cK)
  oc : Own w 0 κ.tN 1 cv P.length (P.flatMap cN)
  ks : ∀ x9 ∈ K, Own w 0 5 1 x9.1 x9.2.length (x9.2.map u8v)
  kr : ∀ x9 ∈ K, ∀ k, Bl x9.1 k → R k
  wp : W p
  wk : ∀ k, Bl kv k → W k
  wc : ∀ k, Bl cv k → W k
  wg : ∀ k, G k → W k
  ty : TyF κ w W
  np : ¬ G p
  nk : Dj (Bl kv) G
  nc : Dj (Bl cv) G
def TreeR (κ : Kd V) (R : Nat → Prop) (w : World) : (h : Nat) → Nat → Tr V h → (Nat → Prop) → Prop
  | 0, p, t, W => ∃ pv D, LeafR κ R w p pv D W ∧ D.map Prod.snd = (t : List (Ky × V))
  | h + 1, p, t, W => ∃ kv cv K P G, NodeR κ R w p kv cv K P G W ∧ Kids (TreeR κ R w h) P t.2 G ∧ K.map Prod.snd = t.1
def KidsR (κ : Kd V) (R : Nat → Prop) (w : World) (h : Nat) (P : List Nat) (ts : List (Tr V h)) (G : Nat → Prop) : Prop := Kids (TreeR κ R w h) P ts G
variable {h : Nat} {tr : Tr V h} {trs : List (Tr V h)} {pv kv cv : Value} {D : List (DP V)} {K : List DK}
theorem TreeR.ty : ∀ {h : Nat} {p : Nat} {tr : Tr V h} {W : Nat → Prop}, TreeR κ R w h p tr W → TyF κ w W
  | 0, _, _, _, ⟨_, _, L, _⟩ => L.ty
  | _ + 1, _, _, _, ⟨_, _, _, _, _, N, _⟩ => N.ty
theorem KidsR.ty (T : KidsR κ R w h P trs G) : TyF κ w G := Kids.all T fun _ _ _ q => q.ty
theorem TreeR.lt (T : TreeR κ R w h p tr W) : ∀ k, W k → 0 ≤ k ∧ k < w.heap.size := fun k hk => ⟨Nat.zero_le _, T.ty.lt k hk⟩
theorem KidsR.lt (T : KidsR κ R w h P trs G) : ∀ k, G k → 0 ≤ k ∧ k < w.heap.size := fun k hk => ⟨Nat.zero_le _, T.ty.lt k hk⟩
theorem LeafR.keepA (L : LeafR κ R w p pv D W) (E : Gr w w' H) (hd : Dj W H) (hk : ∀ v n l, Own w 0 5 1 v n l → (∃ m : List UInt8, l = m.map u8v) → (∀ k, Bl v k → R k) → Dj (Bl v) H) : LeafR κ R w' p pv D W :=
  { L with bx := L.bx.keepG E (hd p L.wp), op := L.op.keepG E (fun k hk => hd k (L.wv k hk)), ks := fun x hx => (L.ks x hx).keepG E (hk _ _ _ (L.ks x hx) ⟨_, rfl⟩ (L.kr x hx)), ty := L.ty.keepG E hd }
theorem NodeR.keepA (L : NodeR κ R w p kv cv K P G W) (E : Gr w w' H) (hd : Dj W H) (hk : ∀ v n l, Own w 0 5 1 v n l → (∃ m : List UInt8, l = m.map u8v) → (∀ k, Bl v k → R k) → Dj (Bl v) H) : NodeR κ R w' p kv cv K P G W :=
  { L with bx := L.bx.keepG E (hd p L.wp), ok := L.ok.keepG E (fun k hk => hd k (L.wk k hk)), oc := L.oc.keepG E (fun k hk => hd k (L.wc k hk)), ks := fun x hx => (L.ks x hx).keepG E (hk _ _ _ (L.ks x hx) ⟨_, rfl⟩ (L.kr x hx)), ty := L.ty.keepG E hd }
theorem TreeR.keepA (E : Gr w w' H) (hk : ∀ v n l, Own w 0 5 1 v n l → (∃ m : List UInt8, l = m.map u8v) → (∀ k, Bl v k → R k) → Dj (Bl v) H) : ∀ {h : Nat} {p : Nat} {tr : Tr V h} {W : Nat → Prop}, TreeR κ R w h p tr W → Dj W H → TreeR κ R w' h p tr W
  | 0, _, _, _, ⟨pv, D, L, e⟩, hd => ⟨pv, D, L.keepA E hd hk, e⟩
  | _ + 1, _, _, _, ⟨kv, cv, K, P, G, N, Ks, e⟩, hd => ⟨kv, cv, K, P, G, N.keepA E hd hk, Ks.imp fun _ _ _ q hg => TreeR.keepA E hk q (fun k hk => hd k (N.wg k (hg k hk))), e⟩
theorem noK_hk (hn : NoK w H) : ∀ v n l, Own w 0 5 1 v n l → (∃ m : List UInt8, l = m.map u8v) → (∀ k, Bl v k → R k) → Dj (Bl v) H := fun v n l O ⟨m, hm⟩ _ => by subst hm; exact hn.key O
theorem TreeR.keepG (T : TreeR κ R w h p tr W) (E : Gr w w' H) (hd : Dj W H) (hn : NoK w H) : TreeR κ R w' h p tr W := TreeR.keepA E (noK_hk hn) T hd
theorem TreeR.kz (T : TreeR κ R w h p tr W) (E : w.grownBy w' none) : TreeR κ R w' h p tr W := T.keepG (Gr.of0 E NoB) (fun _ _ h => h) (NoK.no _)
theorem KidsR.keepG (T : KidsR κ R w h P trs G) (E : Gr w w' H) (hd : Dj G H) (hn : NoK w H) : KidsR κ R w' h P trs G := Kids.imp T fun _ _ _ q hg => TreeR.keepA E (noK_hk hn) q (fun k hk => hd k (hg k hk))
theorem KidsR.kz (T : KidsR κ R w h P trs G) (E : w.grownBy w' none) : KidsR κ R w' h P trs G := T.keepG (Gr.of0 E NoB) (fun _ _ h => h) (NoK.no _)
theorem TreeR.keepR (T : TreeR κ R w h p tr W) (E : Gr w w' H) (hd : Dj W H) (hr : Dj R H) : TreeR κ R w' h p tr W := TreeR.keepA E (fun _ _ _ _ _ q k hk => hr k (q k hk)) T hd
theorem TreeR.notOwn (T : TreeR κ R w h p tr W) (O : Own w base e sz v n cs) (h1 : e ≠ κ.tB) (h2 : e ≠ κ.tP) (h3 : e ≠ 27) (h4 : e ≠ κ.tN) : Dj (Bl v) W := (T.ty.notOwn O h1 h2 h3 h4).symm
theorem TreeR.notBx (T : TreeR κ R w h p tr W) (B : Bx w b t cs) (h1 : t ≠ κ.tB) (h2 : t ≠ κ.tP) (h3 : t ≠ 27) (h4 : t ≠ κ.tN) : ¬ W b := T.ty.notBx B h1 h2 h3 h4
theorem kI_fine : kI.fine := ⟨by decide, by decide, by decide⟩
theorem TreeR.noK (T : TreeR κ R w h p tr W) (hf : κ.fine) : NoK w W := T.ty.noK hf
end
end Go.Gx

namespace Go.Proofs.Ytcpfdfejojghbaa
open Go.Gx Go.RowKit
attribute [local irreducible] wpList wpStill Code.wp Calls
open Go.Bt
theorem leafLI {p : Nat} {pv : Value} {D : List (DP (Int))} {w : World} (hx : Bx w p 115 [pv, .slice none 0 0, .slice none 0 0]) (op : Own w 0 51 2 pv D.length (D.flatMap cI)) : Ret Try.prog 81 #[(ptr p 0)] w (fun v' w' => v' = .bool true ∧ w' = w) := by
 refine enter (N := 9) Try.func81 rfl rfl (by simp) fun a0 hN hd hA => ?_
 have s0 : a0.tmps.getD 0 undef = (ptr p 0) := hA 0 (by simp)
 clear hA
 refine seq_any fun K3 hK3 => one_reg (op_assign rfl (reg_nil (hK3 _ _ ?_)))
 refine seq_any fun K4 hK4 => one_reg (op_move (ev_base hN rfl s0) (op_nil (ev_hit hN rfl) (op_field fld115_2 (ev_hit hN rfl) (op_load1 (v := (Value.slice none 0 0)) one113 (ev_hit hN rfl) (hx.cell rfl) (op_len_rd Try.underlying113 (ev_hit hN rfl) (RdC.nil _ 0 0 1) ?_)))))
 refine op_bin (v := .bool true) (ev_hit hN rfl) rfl (by rw [binOp_eql]; rfl) (op_assign (ev_hit hN rfl) (reg_nil (hK4 _ _ (wp_ret ?_))))
 refine ret1 rfl hd (ev_hit hN rfl) ⟨_, rfl, ?_⟩
 exact ⟨rfl, rfl⟩

theorem leafNI {p : Nat} {kv cv : Value} {K : List DK} {P : List Nat} {w : World} (hx : Bx w p 115 [.slice none 0 0, kv, cv]) (ok : Own w 0 27 1 kv K.length (K.flatMap cK)) (oc : Own w 0 69 1 cv P.length (P.flatMap cN)) (hP : 0 < P.length) (hPn : P.length ≤ 1000) : Ret Try.prog 81 #[(ptr p 0)] w (fun v' w' => v' = .bool false ∧ w' = w) := by
 refine enter (N := 9) Try.func81 rfl rfl (by simp) fun a0 hN hd hA => ?_
 have s0 : a0.tmps.getD 0 undef = (ptr p 0) := hA 0 (by simp)
 clear hA
 refine seq_any fun K3 hK3 => one_reg (op_assign rfl (reg_nil (hK3 _ _ ?_)))
 refine seq_any fun K4 hK4 => one_reg (op_move (ev_base hN rfl s0) (op_nil (ev_hit hN rfl) (op_field fld115_2 (ev_hit hN rfl) (op_load1 (v := cv) one113 (ev_hit hN rfl) (hx.cell rfl) (op_len_rd Try.underlying113 (ev_hit hN rfl) oc.rdw ?_)))))
 refine op_eql (ev_hit hN rfl) rfl (fun c8 => ?_) (fun c8 => ?_)
 ·
  exfalso; omega
 ·
  refine op_assign (ev_hit hN rfl) (reg_nil (hK4 _ _ (wp_ret ?_)))
  refine ret1 rfl hd (ev_hit hN rfl) ⟨_, rfl, ?_⟩
  exact ⟨rfl, rfl⟩

theorem sizeLI {p : Nat} {pv : Value} {D : List (DP (Int))} {w : World} (hx : Bx w p 115 [pv, .slice none 0 0, .slice none 0 0]) (op : Own w 0 51 2 pv D.length (D.flatMap cI)) : Ret Try.prog 52 #[(ptr p 0)] w (fun v' w' => v' = .int .i64 (D.length : Int) ∧ w' = w) := by
 refine enter (N := 15) Try.func52 rfl rfl (by simp) fun a0 hN hd hA => ?_
 have s0 : a0.tmps.getD 0 undef = (ptr p 0) := hA 0 (by simp)
 clear hA
 refine seq_any fun K2 hK2 => one_reg (op_assign rfl ?_)
 refine reg_nil (hK2 _ _ (seq_any fun K3 hK3 => seq_any fun K4 hK4 => one_reg (op_move (ev_base hN rfl s0) (op_fn (vs := [(ptr p 0)]) ok81 ⟨(ev_hit hN rfl), trivial⟩ (Ret.flip (leafLI hx op)) ?_))))
 rintro _ _ ⟨rfl, rfl⟩
 refine reg_nil (hK4 _ _ (wp_cond_true (ev_hit hN rfl) ?_))
 refine seq_any fun K5 hK5 => one_reg (op_move (ev_base hN rfl s0) (op_nil (ev_hit hN rfl) (op_field fld115_0 (ev_hit hN rfl) (op_load1 (v := pv) one48 (ev_hit hN rfl) (hx.cell rfl) (op_len_rd Try.underlying48 (ev_hit hN rfl) op.rdw ?_)))))
 refine op_assign (ev_hit hN rfl) (reg_nil (hK5 _ _ (wp_ret (then_ret ( ?_)))))
 refine ret1 rfl hd (ev_hit hN rfl) ⟨_, rfl, ?_⟩
 exact ⟨rfl, rfl⟩

theorem sizeNI {p : Nat} {kv cv : Value} {K : List DK} {P : List Nat} {w : World} (hx : Bx w p 115 [.slice none 0 0, kv, cv]) (ok : Own w 0 27 1 kv K.length (K.flatMap cK)) (oc : Own w 0 69 1 cv P.length (P.flatMap cN)) (hP : 0 < P.length) (hPn : P.length ≤ 1000) : Ret Try.prog 52 #[(ptr p 0)] w (fun v' w' => v' = .int .i64 (K.length : Int) ∧ w' = w) := by
 refine enter (N := 15) Try.func52 rfl rfl (by simp) fun a0 hN hd hA => ?_
 have s0 : a0.tmps.getD 0 undef = (ptr p 0) := hA 0 (by simp)
 clear hA
 refine seq_any fun K2 hK2 => one_reg (op_assign rfl ?_)
 refine reg_nil (hK2 _ _ (seq_any fun K3 hK3 => seq_any fun K4 hK4 => one_reg (op_move (ev_base hN rfl s0) (op_fn (vs := [(ptr p 0)]) ok81 ⟨(ev_hit hN rfl), trivial⟩ (Ret.flip (leafNI hx ok oc (by omega) (by omega))) ?_))))
 rintro _ _ ⟨rfl, rfl⟩
 refine reg_nil (hK4 _ _ (wp_cond_false (ev_hit hN rfl) (wp_skip (hK3 _ _ ?_))))
 refine seq_any fun K5 hK5 => one_reg (op_move (ev_base hN rfl s0) (op_nil (ev_hit hN rfl) (op_field fld115_1 (ev_hit hN rfl) (op_load1 (v := kv) one90 (ev_hit hN rfl) (hx.cell rfl) (op_len_rd Try.underlying90 (ev_hit hN rfl) ok.rdw ?_)))))
 refine op_assign (ev_hit hN rfl) (reg_nil (hK5 _ _ (wp_ret ?_)))
 refine ret1 rfl hd (ev_hit hN rfl) ⟨_, rfl, ?_⟩
 exact ⟨rfl, rfl⟩

theorem findI {x : List UInt8} {xv : Value} {p : Nat} {pv : Value} {D : List (DP (Int))} {w : World} (hx : Bx w p 115 [pv, .slice none 0 0, .slice none 0 0]) (op : Own w 0 51 2 pv D.length (D.flatMap cI)) (ks : ∀ x9 ∈ D.map pk, Own w 0 5 1 x9.1 x9.2.length (x9.2.map u8v)) (hs : Sorted (kys D)) (hn : D.length ≤ 1000) (hxr : RdC w 0 w.heap.size 1 xv x.length (x.map u8v)) : Ret Try.prog 82 #[(ptr p 0), xv] w (fun v' w' => Below w.heap.size w w' ∧ v' = .tuple #[.int .i64 ((pos (kys D) x : Nat) : Int), .bool ((kys D).contains x)]) := by
 have hb := Below.refl w.heap.size w
 refine enter (N := 14) Try.func82 rfl rfl (by simp) fun a0 hN hd hA => ?_
 have s0 : a0.tmps.getD 0 undef = (ptr p 0) := hA 0 (by simp)
 have s1 : a0.tmps.getD 1 undef = xv := hA 1 (by simp)
 clear hA
 refine seq_any fun K3 hK3 => one_reg (op_assign rfl (op_assign rfl (reg_nil (hK3 _ _ (seq_any fun K4 hK4 => ?_)))))
 refine one_reg (op_move (ev_base hN rfl s0) (op_nil (ev_hit hN rfl) (op_field fld115_0 (ev_hit hN rfl) (op_load1 (v := pv) one48 (ev_hit hN rfl) (hx.cell rfl) (op_move (ev_base hN rfl s1) (op_fn (vs := [pv, xv, (Value.func (.func 114) #[] #[])]) ok113 ⟨(ev_hit hN rfl), ⟨(ev_hit hN rfl), ⟨rfl, trivial⟩⟩⟩ (bsI (op.rdw.mono (Nat.zero_le _) (by omega)) hs (by omega) ok114 (g := 114) (fs := []) (cs := []) (fun i hi w1 E => find1I ((ks _ (List.mem_map.2 ⟨_, getD_mem hi, rfl⟩)).keep0 (grown_of_below E)).rdw (hxr.keep0 (grown_of_below E)))) ?_))))))
 rintro _ w5 ⟨E6, rfl⟩
 have E6 := grown_of_below E6
 have z_w5 := E6.size
 have hb := below_step0 hb E6 hb.size
 refine op_extract (ev_hit hN rfl) rfl ?_
 refine op_extract (ev_hit hN rfl) rfl ?_
 refine op_assign (ev_hit hN rfl) (op_assign (ev_hit hN rfl) (reg_nil (hK4 _ _ (wp_ret ?_))))
 refine ret2 rfl hd (ev_hit hN rfl) (ev_hit hN rfl) ⟨_, rfl, ?_⟩
 exact ⟨hb, rfl⟩

theorem wayI {x : List UInt8} {xv : Value} {p : Nat} {kv cv : Value} {K : List DK} {P : List Nat} {w : World} (hx : Bx w p 115 [.slice none 0 0, kv, cv]) (ok : Own w 0 27 1 kv K.length (K.flatMap cK)) (oc : Own w 0 69 1 cv P.length (P.flatMap cN)) (ks : ∀ x9 ∈ K, Own w 0 5 1 x9.1 x9.2.length (x9.2.map u8v)) (hs : Sorted (K.map Prod.snd)) (hn : K.length ≤ 1000) (hxr : RdC w 0 w.heap.size 1 xv x.length (x.map u8v)) : Ret Try.prog 84 #[(ptr p 0), xv] w (fun v' w' => Below w.heap.size w w' ∧ v' = .int .i64 ((way (K.map Prod.snd) x : Nat) : Int)) := by
 have hpl := pos_leK (K := K) (x := x)
 have hb := Below.refl w.heap.size w
 refine enter (N := 20) Try.func84 rfl rfl (by simp) fun a0 hN hd hA => ?_
 have s0 : a0.tmps.getD 0 undef = (ptr p 0) := hA 0 (by simp)
 have s1 : a0.tmps.getD 1 undef = xv := hA 1 (by simp)
 clear hA
 refine seq_any fun K2 hK2 => one_reg (op_assign rfl (reg_nil (hK2 _ _ (seq_any fun K3 hK3 => ?_))))
 refine one_reg (op_move (ev_base hN rfl s0) (op_nil (ev_hit hN rfl) (op_field fld115_1 (ev_hit hN rfl) (op_load1 (v := kv) one90 (ev_hit hN rfl) (hx.cell rfl) (op_move (ev_base hN rfl s1) (op_fn (vs := [kv, xv, (Value.func (.func 95) #[] #[])]) ok98 ⟨(ev_hit hN rfl), ⟨(ev_hit hN rfl), ⟨rfl, trivial⟩⟩⟩ (bsK (ok.rdw.mono (Nat.zero_le _) (by omega)) hs (by omega) ok95 (g := 95) (fs := []) (cs := []) (fun i hi w1 E => cmpK ((ks _ (getD_mem hi)).keep0 (grown_of_below E)).rdw (hxr.keep0 (grown_of_below E)))) ?_))))))
 rintro _ w4 ⟨E5, rfl⟩
 have E5 := grown_of_below E5
 have z_w4 := E5.size
 have hb := below_step0 hb E5 hb.size
 refine op_move (ev_hit hN rfl) (op_extract (ev_hit hN rfl) rfl ?_)
 refine op_extract (ev_hit hN rfl) rfl ?_
 refine op_assign (ev_hit hN rfl) (op_assign (ev_hit hN rfl) (reg_nil (hK3 _ _ (seq_any fun K6 hK6 => seq_any fun K7 hK7 => one_reg ?_))))
 rcases Bool.eq_false_or_eq_true (((K.map Prod.snd).contains x)) with c16 | c16
 ·
  rw [c16]
  refine op_move (ev_hit hN rfl) ?_
  refine reg_nil (hK7 _ _ (wp_cond_true (ev_hit hN rfl) (seq_any fun K10 hK10 => one_reg (op_move (ev_hit hN rfl) (op_add (ev_hit hN rfl) rfl (add64 (by omega)) ?_)))))
  refine op_assign (ev_hit hN rfl) (reg_nil (hK10 _ _ (wp_ret (then_ret ( ?_)))))
  refine ret1 rfl hd (ev_hit hN rfl) ⟨_, rfl, ?_⟩
  exact ⟨hb, congrArg (Value.int .i64) (by rw [way_hit hs c16]; omega)⟩
 ·
  rw [c16]
  refine op_move (ev_hit hN rfl) (reg_nil (hK7 _ _ (wp_cond_false (ev_hit hN rfl) (wp_skip (hK6 _ _ ?_)))))
  refine seq_any fun K11 hK11 => one_reg (op_move (ev_hit hN rfl) (op_assign (ev_hit hN rfl) (reg_nil (hK11 _ _ (wp_ret ?_)))))
  refine ret1 rfl hd (ev_hit hN rfl) ⟨_, rfl, ?_⟩
  exact ⟨hb, congrArg (Value.int .i64) (by rw [way_miss hs c16])⟩
theorem clB {l : List UInt8} {v : Value} {w : World} (hl : RdC w 0 w.heap.size 1 v l.length (l.map u8v)) (hz : l.length ≤ 1000000000000) : Ret Try.prog 41 #[v] w (fun v' w' => Below w.heap.size w w' ∧ Own w' w.heap.size 5 1 v' l.length (l.map u8v)) := by
 have hb := Below.refl w.heap.size w
 refine enter (N := 8) Try.func41 rfl rfl (by simp) fun a0 hN hd hA => ?_
 have s0 : a0.tmps.getD 0 undef = v := hA 0 (by simp)
 clear hA
 refine seq_any fun K2 hK2 => one_reg (op_assign rfl (reg_nil (hK2 _ _ (seq_any fun K3 hK3 => ?_))))
 refine seq_any fun K5 hK5 => one_reg (op_move (ev_base hN rfl s0) (op_eql_nil slt27 (ev_hit hN rfl) rfl hl (fun c4 => ?_) ?_))
 ·
  refine reg_nil (hK5 _ _ ?_)
  refine wp_cond_true (ev_hit hN rfl) (seq_any fun K6 hK6 => one_reg (op_assign rfl (reg_nil (hK6 _ _ (wp_ret (then_ret ( ?_)))))))
  refine ret1 rfl hd (ev_hit hN rfl) ⟨_, rfl, ?_⟩
  exact ⟨hb, by rw [List.length_eq_zero_iff.1 c4]; exact Own.nil _ _ _ _⟩
 ·
  refine reg_nil ?_
  refine hK5 _ _ (wp_cond_false (ev_hit hN rfl) (wp_skip (hK3 _ _ (seq_any fun K7 hK7 => one_reg (op_bslice (e := 5) (pv := []) (cs := []) trivial (by kernel_rfl) ?_)))))
  intro w9 b10 lo_b10 hi_b10 hB12 E11
  have z_w9 := E11.size
  have hl := hl.keep0 E11
  have hb := below_step0 hb E11 hb.size
  refine op_move (ev_base hN rfl s0) ?_
  have hP18 := (Own.ofBx (base := w.heap.size) (sz := 1) (n := 0) hB12 rfl (by decide) (by omega))
  refine op_append slt27 (ev_hit hN rfl) hP18 (ev_hit hN rfl) (Src.ofRd Try.underlying27 (by decide) hl (by simp [Value.oneCell', u8v])) (by unfold maxLen; omega) (by omega) hb.size ?_
  intro v13 w14 hO16 E15 hm17
  have z_w14 := E15.size
  have hl := hl.keepO hP18 E15 (by omega)
  have hb := below_stepO hb hP18 E15 hb.size (by omega)
  have hO16 : Own w14 w.heap.size 5 1 v13 (0 + l.length) ((l).map u8v) := by simpa [u8v, sv] using hO16
  refine op_assign (ev_hit hN rfl) (reg_nil (hK7 _ _ (wp_ret ?_)))
  refine ret1 rfl hd (ev_hit hN rfl) ⟨_, rfl, ?_⟩
  exact ⟨hb, hO16.cast (by simp) (by simp)⟩

theorem clK {l : List DK} {v : Value} {w : World} (hl : RdC w 0 w.heap.size 1 v l.length (l.flatMap cK)) (hz : l.length ≤ 1000000000000) (h1 : (l.flatMap cK).all Value.oneCell' = true) : Ret Try.prog 90 #[v] w (fun v' w' => Below w.heap.size w w' ∧ Own w' w.heap.size 27 1 v' l.length (l.flatMap cK)) := by
 have hb := Below.refl w.heap.size w
 refine enter (N := 8) Try.func90 rfl rfl (by simp) fun a0 hN hd hA => ?_
 have s0 : a0.tmps.getD 0 undef = v := hA 0 (by simp)
 clear hA
 refine seq_any fun K2 hK2 => one_reg (op_assign rfl (reg_nil (hK2 _ _ (seq_any fun K3 hK3 => ?_))))
 refine seq_any fun K5 hK5 => one_reg (op_move (ev_base hN rfl s0) (op_eql_nil slt90 (ev_hit hN rfl) rfl hl (fun c4 => ?_) ?_))
 ·
  refine reg_nil (hK5 _ _ ?_)
  refine wp_cond_true (ev_hit hN rfl) (seq_any fun K6 hK6 => one_reg (op_assign rfl (reg_nil (hK6 _ _ (wp_ret (then_ret ( ?_)))))))
  refine ret1 rfl hd (ev_hit hN rfl) ⟨_, rfl, ?_⟩
  exact ⟨hb, by rw [List.length_eq_zero_iff.1 c4]; exact Own.nil _ _ _ _⟩
 ·
  refine reg_nil ?_
  refine hK5 _ _ (wp_cond_false (ev_hit hN rfl) (wp_skip (hK3 _ _ (seq_any fun K7 hK7 => one_reg (op_bslice (e := 27) (pv := []) (cs := []) trivial (by kernel_rfl) ?_)))))
  intro w9 b10 lo_b10 hi_b10 hB12 E11
  have z_w9 := E11.size
  have hl := hl.keep0 E11
  have hb := below_step0 hb E11 hb.size
  refine op_move (ev_base hN rfl s0) ?_
  have hP18 := (Own.ofBx (base := w.heap.size) (sz := 1) (n := 0) hB12 rfl (by decide) (by omega))
  refine op_append slt90 (ev_hit hN rfl) hP18 (ev_hit hN rfl) (Src.ofRd Try.underlying90 (by decide) hl h1) (by unfold maxLen; omega) (by omega) hb.size ?_
  intro v13 w14 hO16 E15 hm17
  have z_w14 := E15.size
  have hl := hl.keepO hP18 E15 (by omega)
  have hb := below_stepO hb hP18 E15 hb.size (by omega)
  have hO16 : Own w14 w.heap.size 27 1 v13 (0 + l.length) ((l).flatMap cK) := by simpa [u8v, sv] using hO16
  refine op_assign (ev_hit hN rfl) (reg_nil (hK7 _ _ (wp_ret ?_)))
  refine ret1 rfl hd (ev_hit hN rfl) ⟨_, rfl, ?_⟩
  exact ⟨hb, hO16.cast (by simp) (by simp)⟩

theorem clPI {l : List (DP Int)} {v : Value} {w : World} (hl : RdC w 0 w.heap.size 2 v l.length (l.flatMap cI)) (hz : l.length ≤ 1000000000000) (h1 : (l.flatMap cI).all Value.oneCell' = true) : Ret Try.prog 89 #[v] w (fun v' w' => Below w.heap.size w w' ∧ Own w' w.heap.size 51 2 v' l.length (l.flatMap cI)) := by
 have hb := Below.refl w.heap.size w
 refine enter (N := 8) Try.func89 rfl rfl (by simp) fun a0 hN hd hA => ?_
 have s0 : a0.tmps.getD 0 undef = v := hA 0 (by simp)
 clear hA
 refine seq_any fun K2 hK2 => one_reg (op_assign rfl (reg_nil (hK2 _ _ (seq_any fun K3 hK3 => ?_))))
 refine seq_any fun K5 hK5 => one_reg (op_move (ev_base hN rfl s0) (op_eql_nil slt48 (ev_hit hN rfl) rfl hl (fun c4 => ?_) ?_))
 ·
  refine reg_nil (hK5 _ _ ?_)
  refine wp_cond_true (ev_hit hN rfl) (seq_any fun K6 hK6 => one_reg (op_assign rfl (reg_nil (hK6 _ _ (wp_ret (then_ret ( ?_)))))))
  refine ret1 rfl hd (ev_hit hN rfl) ⟨_, rfl, ?_⟩
  exact ⟨hb, by rw [List.length_eq_zero_iff.1 c4]; exact Own.nil _ _ _ _⟩
 ·
  refine reg_nil ?_
  refine hK5 _ _ (wp_cond_false (ev_hit hN rfl) (wp_skip (hK3 _ _ (seq_any fun K7 hK7 => one_reg (op_bslice (e := 51) (pv := []) (cs := []) trivial (by kernel_rfl) ?_)))))
  intro w9 b10 lo_b10 hi_b10 hB12 E11
  have z_w9 := E11.size
  have hl := hl.keep0 E11
  have hb := below_step0 hb E11 hb.size
  refine op_move (ev_base hN rfl s0) ?_
  have hP18 := (Own.ofBx (base := w.heap.size) (sz := 2) (n := 0) hB12 rfl (by decide) (by omega))
  refine op_append slt48 (ev_hit hN rfl) hP18 (ev_hit hN rfl) (Src.ofRd Try.underlying48 (by decide) hl h1) (by unfold maxLen; omega) (by omega) hb.size ?_
  intro v13 w14 hO16 E15 hm17
  have z_w14 := E15.size
  have hl := hl.keepO hP18 E15 (by omega)
  have hb := below_stepO hb hP18 E15 hb.size (by omega)
  have hO16 : Own w14 w.heap.size 51 2 v13 (0 + l.length) ((l).flatMap cI) := by simpa [u8v, sv] using hO16
  refine op_assign (ev_hit hN rfl) (reg_nil (hK7 _ _ (wp_ret ?_)))
  refine ret1 rfl hd (ev_hit hN rfl) ⟨_, rfl, ?_⟩
  exact ⟨hb, hO16.cast (by simp) (by simp)⟩

theorem clNI {l : List Nat} {v : Value} {w : World} (hl : RdC w 0 w.heap.size 1 v l.length (l.flatMap cN)) (hz : l.length ≤ 1000000000000) : Ret Try.prog 119 #[v] w (fun v' w' => Below w.heap.size w w' ∧ Own w' w.heap.size 69 1 v' l.length (l.flatMap cN)) := by
 have hb := Below.refl w.heap.size w
 refine enter (N := 8) Try.func119 rfl rfl (by simp) fun a0 hN hd hA => ?_
 have s0 : a0.tmps.getD 0 undef = v := hA 0 (by simp)
 clear hA
 refine seq_any fun K2 hK2 => one_reg (op_assign rfl (reg_nil (hK2 _ _ (seq_any fun K3 hK3 => ?_))))
 refine seq_any fun K5 hK5 => one_reg (op_move (ev_base hN rfl s0) (op_eql_nil slt113 (ev_hit hN rfl) rfl hl (fun c4 => ?_) ?_))
 ·
  refine reg_nil (hK5 _ _ ?_)
  refine wp_cond_true (ev_hit hN rfl) (seq_any fun K6 hK6 => one_reg (op_assign rfl (reg_nil (hK6 _ _ (wp_ret (then_ret ( ?_)))))))
  refine ret1 rfl hd (ev_hit hN rfl) ⟨_, rfl, ?_⟩
  exact ⟨hb, by rw [List.length_eq_zero_iff.1 c4]; exact Own.nil _ _ _ _⟩
 ·
  refine reg_nil ?_
  refine hK5 _ _ (wp_cond_false (ev_hit hN rfl) (wp_skip (hK3 _ _ (seq_any fun K7 hK7 => one_reg (op_bslice (e := 69) (pv := []) (cs := []) trivial (by kernel_rfl) ?_)))))
  intro w9 b10 lo_b10 hi_b10 hB12 E11
  have z_w9 := E11.size
  have hl := hl.keep0 E11
  have hb := below_step0 hb E11 hb.size
  refine op_move (ev_base hN rfl s0) ?_
  have hP18 := (Own.ofBx (base := w.heap.size) (sz := 1) (n := 0) hB12 rfl (by decide) (by omega))
  refine op_append slt113 (ev_hit hN rfl) hP18 (ev_hit hN rfl) (Src.ofRd Try.underlying113 (by decide) hl (one_pn _)) (by unfold maxLen; omega) (by omega) hb.size ?_
  intro v13 w14 hO16 E15 hm17
  have z_w14 := E15.size
  have hl := hl.keepO hP18 E15 (by omega)
  have hb := below_stepO hb hP18 E15 hb.size (by omega)
  have hO16 : Own w14 w.heap.size 69 1 v13 (0 + l.length) ((l).flatMap cN) := by simpa [u8v, sv] using hO16
  refine op_assign (ev_hit hN rfl) (reg_nil (hK7 _ _ (wp_ret ?_)))
  refine ret1 rfl hd (ev_hit hN rfl) ⟨_, rfl, ?_⟩
  exact ⟨hb, hO16.cast (by simp) (by simp)⟩

end Go.Proofs.Ytcpfdfejojghbaa

namespace Go.Gx
open Go.RowKit
section
variable {P : Program} {ol : List Oper} {Q : Exit → Act → World → Prop} {Φ : Nat → Value → World → Prop} {C : Nat → Value → World → Prop} {ch : Chain} {R : World → World → Prop} {a0 : Act} {N : Nat}
end
section
variable {P : Program} {ol : List Oper} {Q : Exit → Act → World → Prop} {Φ : Nat → Value → Prop} {G : World → Prop} {a0 : Act} {N : Nat}
end
end Go.Gx

namespace Go.Gx
open Go.RowKit
section
variable {P : Program} {ol : List Oper} {Q : Exit → Act → World → Prop} {E : Type} {Φ : E → Nat → Value → Prop} {C : E → Nat → World → Prop} {ch : Chain} {a0 : Act} {N : Nat}
def ObNE (P : Program) (ol : List Oper) (Φ : E → Nat → Value → Prop) (C : E → Nat → World → Prop) (a0 : Act) (N : Nat) (i : Nat) (o : Oper) : Prop :=
  ∀ (e : E) (a : Act) (w : World) (c : Nat), a.tmps.size = N → C e c w → (∀ t, safeB ol i t = true → a.tmps.getD t undef = a0.tmps.getD t undef) → (∀ j oj d, depB ol i j = true → ol[j]? = some oj → oj.dst = some d → Φ e j (a.tmps.getD d undef)) →
    wpList P ol.toArray (fun ex a' w' => ex = .normal ∧ (∃ d v, o.dst = some d ∧ a' = putsL a [(d, v)] ∧ Φ e i v) ∧ w.grownBy w' none) [o] (putsL a []) w
def ObCE (P : Program) (ol : List Oper) (Φ : E → Nat → Value → Prop) (C : E → Nat → World → Prop) (a0 : Act) (N : Nat) (c i : Nat) (o : Oper) : Prop :=
  ∀ (e : E) (a : Act) (w : World), a.tmps.size = N → (∀ t, safeB ol i t = true → a.tmps.getD t undef = a0.tmps.getD t undef) → (∀ j oj d, depB ol i j = true → ol[j]? = some oj → oj.dst = some d → Φ e j (a.tmps.getD d undef)) → C e c w →
    wpList P ol.toArray (fun ex a' w' => ex = .normal ∧ ∃ e', (∀ j u, Φ e j u → Φ e' j u) ∧ ((o.dst = none ∧ a' = a) ∨ ∃ d v, o.dst = some d ∧ a' = putsL a [(d, v)] ∧ Φ e' i v) ∧ C e' (c + 1) w') [o] (putsL a []) w
theorem region_env_steps (hlex : lexB' ol = true) (hdn : dstNB ol N = true) (hdst : dstsB ol = true) (hch : ch.okB ol = true) (w0 : World)
    (hC : ∀ e c w1 w2, w1.grownBy w2 none → C e c w1 → C e c w2)
    (obN : ∀ i o, ol[i]? = some o → ch.has i = false → ObNE P ol Φ C a0 N i o) (obC : ∀ c i o, ch.ops[c]? = some i → ol[i]? = some o → ObCE P ol Φ C a0 N c i o)
    (fin : ∀ a w e, RInv ol (fun j u _ => Φ e j u) (fun c _ w => C e c w) ch a0 N w0 (fun _ _ => True) (Array.replicate ol.length true) ch.ops.length a w → Q .normal a w) :
    ∀ (fuel : Nat) (listed : Array Bool) (c : Nat) (a : Act) (w : World) (e : E), RInv ol (fun j u _ => Φ e j u) (fun c _ w => C e c w) ch a0 N w0 (fun _ _ => True) listed c a w → (List.range ol.length).countP (fun i => !listed.getD i true) ≤ fuel → wpAny P .any ol.toArray Q fuel listed a w := by
  have hch' := hch
  simp only [Chain.okB, Bool.and_eq_true] at hch'
  obtain ⟨⟨⟨hc1, hc2⟩, hc3⟩, hc4⟩ := hch'
  have done : ∀ (listed : Array Bool) (c : Nat) (a : Act) (w : World) (e : E), RInv ol (fun j u _ => Φ e j u) (fun c _ w => C e c w) ch a0 N w0 (fun _ _ => True) listed c a w → Region.ready .any ol.toArray listed = [] → Q .normal a w := by
    intro listed c a w ee I hr
    have hall : ∀ i, i < ol.length → listed.getD i true = true := by
      intro i
      induction i using Nat.strongRecOn with
      | _ i ih =>
        intro hi
        by_cases hq : listed.getD i true = true
        · exact hq
        · exfalso
          have hm : i ∈ Region.ready .any ol.toArray listed := by
            rw [mem_ready]
            refine ⟨by simpa using hq, ol[i], by simp [hi], fun e he hb => ?_⟩
            have h1 := List.all_eq_true.1 hlex i (by simp [hi])
            simp only [List.getElem?_eq_getElem hi, Array.all_eq_true_iff_forall_mem, Bool.or_eq_true, Bool.not_eq_true', Nat.blt_eq] at h1
            have h2 := (h1 e he).resolve_left (by simp [hb])
            exact getD_true_lt (ih e.on h2 (by omega)) (by rw [I.lsize]; omega)
          rw [hr] at hm
          cases hm
    have hl : listed = Array.replicate ol.length true := by
      apply Array.ext
      · simp [I.lsize]
      · intro i h1 h2
        have := hall i (by simpa using h2)
        simp [Array.getD_eq_getD_getElem?, h1] at this
        simp [this]
    have hcc : c = ch.ops.length := by
      rcases Nat.lt_or_ge c ch.ops.length with h | h
      · exfalso
        have h1 := (I.chain c ch.ops[c] (by simp [h])).1 (hall _ (by
          have := List.all_eq_true.1 hc3 ch.ops[c] (List.getElem_mem h)
          simpa [Nat.blt_eq] using this))
        omega
      · exact Nat.le_antisymm I.cle h
    subst hl; subst hcc
    exact fin a w ee I
  intro fuel
  induction fuel with
  | zero =>
    intro listed c a w ee I hcnt
    have hr : Region.ready .any ol.toArray listed = [] := by
      rw [List.eq_nil_iff_forall_not_mem]
      intro i hi
      obtain ⟨h1, o, ho, _⟩ := mem_ready.1 hi
      have hlt : i < ol.length := by simpa using (Array.getElem?_eq_some_iff.1 ho).1
      have hz : (List.range ol.length).countP (fun i => !listed.getD i true) = 0 := by omega
      rw [List.countP_eq_zero] at hz
      exact hz i (by simp [hlt]) (by simp [h1])
    exact ⟨hr, done listed c a w ee I hr⟩
  | succ fuel ih =>
    intro listed c a w ee I hcnt
    refine ⟨fun hr => done listed c a w ee I hr, fun i hi => ?_⟩
    obtain ⟨hun, o, ho, hwait⟩ := mem_ready.1 hi
    have ho' : ol[i]? = some o := by simpa using ho
    have hlt : i < ol.length := (List.getElem?_eq_some_iff.1 ho').1
    have hls : i < listed.size := by rw [I.lsize]; exact hlt
    have hcnt' : (List.range ol.length).countP (fun j => !(listed.setIfInBounds i true).getD j true) ≤ fuel := by
      have : (List.range ol.length).countP (fun j => !(listed.setIfInBounds i true).getD j true) < (List.range ol.length).countP (fun j => !listed.getD j true) := by
        refine countP_lt _ _ (fun y hy => ?_) _ i (by simp [hlt]) (by simp [hun]) (by simp [Array.getD_eq_getD_getElem?, hls])
        by_cases hiy : i = y
        · subst hiy; simp [Array.getD_eq_getD_getElem?, hls] at hy
        · rwa [getD_set_ne true hiy] at hy
      omega
    have hbase : ∀ t, safeB ol i t = true → a.tmps.getD t undef = a0.tmps.getD t undef := by
      intro t ht
      refine I.base t fun j oj hj hlj hd => ?_
      have h1 := List.all_eq_true.1 ht oj (List.mem_of_getElem? hj)
      simp only [Bool.or_eq_true, bne_iff_ne, ne_eq, Array.any_eq_true, Bool.and_eq_true, beq_iff_eq] at h1
      rcases h1 with h1 | ⟨q, hq, h1, h2⟩
      · exact h1 hd
      · have := getD_of_false (I.closed j oj hj hlj _ (Array.getElem_mem hq) h2)
        rw [h1, hun] at this
        cases this
    have hdep : ∀ j oj d, depB ol i j = true → ol[j]? = some oj → oj.dst = some d → Φ ee j (a.tmps.getD d undef) := by
      intro j oj d hj hoj hd
      obtain ⟨e, he, h1, h2⟩ := depB_spec ho' hj
      exact I.phi j oj d hoj (getD_of_false (by rw [← h1]; exact hwait e he h2)) hd
    have hset : ∀ j, j ≠ i → (listed.setIfInBounds i true).getD j true = listed.getD j true := fun j hj => getD_set_ne true (Ne.symm hj)
    have hseti : (listed.setIfInBounds i true).getD i true = true := by simp [Array.getD_eq_getD_getElem?, hls]
    have hclosed : ∀ j oj, ol[j]? = some oj → (listed.setIfInBounds i true).getD j true = true → ∀ e ∈ oj.after, Region.binds .any e = true → (listed.setIfInBounds i true).getD e.on false = true := by
      intro j oj hoj hlj e he hb
      refine getD_set_true ?_
      by_cases hji : j = i
      · subst hji
        rw [ho'] at hoj; cases hoj
        exact hwait e he hb
      · rw [hset j hji] at hlj
        exact I.closed j oj hoj hlj e he hb
    have hne : ∀ j oj d, ol[j]? = some oj → j ≠ i → o.dst = some d → oj.dst ≠ some d := by
      intro j oj d hoj hji hd hd'
      have hj : j < ol.length := (List.getElem?_eq_some_iff.1 hoj).1
      have h1 := List.all_eq_true.1 (List.all_eq_true.1 hdst i (by simp [hlt])) j (by simp [hj])
      simp only [ho', hoj, Bool.or_eq_true, beq_iff_eq, bne_iff_ne, ne_eq] at h1
      rcases h1 with h1 | h1 | h1
      · exact hji h1.symm
      · exact h1 (by rw [hd, hd'])
      · rw [hd] at h1; cases h1
    -- what is left of the frame, behind a value in slot d
    have hframe : ∀ d v (e' : E), o.dst = some d → (∀ j u, Φ ee j u → Φ e' j u) → Φ e' i v → 
        (∀ t, (∀ j oj, ol[j]? = some oj → (listed.setIfInBounds i true).getD j true = true → oj.dst ≠ some t) → (putsL a [(d, v)]).tmps.getD t undef = a0.tmps.getD t undef) ∧
        (∀ j oj d', ol[j]? = some oj → (listed.setIfInBounds i true).getD j true = true → oj.dst = some d' → Φ e' j ((putsL a [(d, v)]).tmps.getD d' undef)) := by
      intro d v e' hd hR hv
      have hdN : d < a.tmps.size := by
        have h1 := List.all_eq_true.1 hdn o (List.mem_of_getElem? ho')
        simp only [hd, Nat.blt_eq] at h1
        rw [I.size]; exact h1
      refine ⟨fun t ht => ?_, fun j oj d' hoj hlj hd' => ?_⟩
      · have hdt : d ≠ t := fun e => ht i o ho' hseti (by rw [hd, e])
        rw [get_put_ne hdt]
        refine I.base t fun j oj hoj hlj => ?_
        by_cases hji : j = i
        · subst hji; rw [hun] at hlj; cases hlj
        · exact ht j oj hoj (by rw [hset j hji]; exact hlj)
      · by_cases hji : j = i
        · subst hji
          rw [ho'] at hoj; cases hoj
          rw [hd] at hd'; cases hd'
          rw [get_put_eq hdN]
          exact hv
        · rw [hset j hji] at hlj
          have : d ≠ d' := fun e => hne j oj d hoj hji hd (by rw [hd', e])
          rw [get_put_ne this]
          exact hR j _ (I.phi j oj d' hoj hlj hd')
    by_cases hin : ch.has i = true
    · have hmem : i ∈ ch.ops := by simpa [Chain.has] using hin
      obtain ⟨c0, hc0, hci⟩ := List.getElem_of_mem hmem
      have hci' : ch.ops[c0]? = some i := by simp [hc0, hci]
      have hcc : c0 = c := by
        have h1 : ¬ c0 < c := fun h => by
          have := (I.chain c0 i hci').2 h
          rw [hun] at this; cases this
        rcases Nat.lt_or_ge c c0 with h2 | h2
        · exfalso
          have h3 := List.all_eq_true.1 hc1 c0 (by simp [hc0])
          have hz : (c0 == 0) = false := by simp; omega
          have hp : ch.ops.getD (c0 - 1) 0 = ch.ops[c0 - 1] := by simp [List.getD_eq_getElem?_getD, show c0 - 1 < ch.ops.length by omega]
          have hq : ch.ops.getD c0 0 = i := by simp [List.getD_eq_getElem?_getD, hc0, hci]
          rw [hz, hp, hq, Bool.false_or] at h3
          obtain ⟨e, he, h4, h5⟩ := depB_spec ho' h3
          have h6 := getD_of_false (hwait e he h5)
          rw [h4] at h6
          have := (I.chain (c0 - 1) ch.ops[c0 - 1] (by simp [show c0 - 1 < ch.ops.length by omega])).1 h6
          omega
        · omega
      subst hcc
      refine wp_one (by simpa using ho') (obC c0 i o hci' ho' ee a w I.size hbase hdep I.chainC) fun a' w' h => ?_
      obtain ⟨e', hm, h1, h2⟩ := h
      have hchain : ∀ m i', ch.ops[m]? = some i' → ((listed.setIfInBounds i true).getD i' true = true ↔ m < c0 + 1) := by
        intro m i' hm
        by_cases hii : i' = i
        · subst hii
          have : m = c0 := by
            have hnd : ch.ops.Nodup := of_decide_eq_true hc4
            have hmlt : m < ch.ops.length := (List.getElem?_eq_some_iff.1 hm).1
            exact (List.getElem?_inj hmlt hnd).1 (by rw [hm, hci'])
          exact ⟨fun _ => by omega, fun _ => hseti⟩
        · rw [hset i' hii, I.chain m i' hm]
          refine ⟨fun h => by omega, fun h => ?_⟩
          rcases Nat.lt_or_ge m c0 with h' | h'
          · exact h'
          · have : m = c0 := by omega
            subst this
            rw [hci'] at hm; exact absurd (Option.some.inj hm).symm hii
      refine ih _ (c0 + 1) a' w' e' ?_ hcnt'
      rcases h1 with ⟨hd, rfl⟩ | ⟨d, v, hd, rfl, hv⟩
      · refine ⟨I.size, I.defers, fun t ht => ?_, fun j oj d' hoj hlj hd' => ?_, hclosed, by simp [I.lsize], by omega, hchain, h2, trivial⟩
        · refine I.base t fun j oj hoj hlj => ?_
          by_cases hji : j = i
          · subst hji; rw [hun] at hlj; cases hlj
          · exact ht j oj hoj (by rw [hset j hji]; exact hlj)
        · by_cases hji : j = i
          · subst hji
            rw [ho'] at hoj; cases hoj
            rw [hd] at hd'; cases hd'
          · rw [hset j hji] at hlj
            exact hm j _ (I.phi j oj d' hoj hlj hd')
      · obtain ⟨f1, f2⟩ := hframe d v e' hd hm hv
        exact ⟨by rw [putsL_size, I.size], by rw [putsL_defers, I.defers], f1, f2, hclosed, by simp [I.lsize], by omega, hchain, h2, trivial⟩
    · have hin' : ch.has i = false := by simpa using hin
      refine wp_one (by simpa using ho') (obN i o ho' hin' ee a w c I.size I.chainC hbase hdep) fun a' w' h => ?_
      obtain ⟨⟨d, v, hd, rfl, hv⟩, hg⟩ := h
      obtain ⟨f1, f2⟩ := hframe d v ee hd (fun _ _ h => h) hv
      refine ih _ c _ w' ee ⟨by rw [putsL_size, I.size], by rw [putsL_defers, I.defers], f1, f2, hclosed, by simp [I.lsize], I.cle, ?_, hC _ _ w w' hg I.chainC, trivial⟩ hcnt'
      · intro m i' hm
        have hii : i' ≠ i := by
          rintro rfl
          have : ch.has i' = true := by simpa [Chain.has] using List.mem_of_getElem? hm
          rw [hin'] at this; cases this
        rw [hset i' hii]
        exact I.chain m i' hm
end

section
variable {P : Program} {ol : List Oper} {Q : Exit → Act → World → Prop} {ops : List Nat} {φ : Nat → Value → Prop} {G : World → Prop} {a0 : Act} {N : Nat}
def PhE (ops : List Nat) (φ : Nat → Value → Prop) (e : List Value) (j : Nat) (u : Value) : Prop := (∀ c : Nat, ops[c]? = some j → e[c]? = some u) ∧ (ops.contains j = false → φ j u)
theorem PhE.mono {e : List Value} {v : Value} {j : Nat} {u : Value} (h : PhE ops φ e j u) : PhE ops φ (e ++ [v]) j u :=
  ⟨fun c hc => by have h1 := h.1 c hc; have hl := (List.getElem?_eq_some_iff.1 h1).1; rw [List.getElem?_append_left hl]; exact h1, h.2⟩
theorem PhE.light {j : Nat} {e : List Value} {u : Value} (hh : ops.contains j = false) (h : φ j u) : PhE ops φ e j u :=
  ⟨fun c hc => by have : ops.contains j = true := by simpa using List.mem_of_getElem? hc
                  exact absurd (this.symm.trans hh) (by decide), fun _ => h⟩
def KE (P : Program) (ol : List Oper) (ops : List Nat) (φ : Nat → Value → Prop) (G : World → Prop) (a0 : Act) (N : Nat) (Q : Exit → Act → World → Prop) : List Nat → List Value → World → Prop
  | [], e, w => ∀ w1, w.grownBy w1 none → ∀ a', a'.tmps.size = N → a'.defers = a0.defers → (∀ t, (ol.all fun o => o.dst != some t) = true → a'.tmps.getD t undef = a0.tmps.getD t undef) →
      (∀ j oj d, ol[j]? = some oj → oj.dst = some d → PhE ops φ e j (a'.tmps.getD d undef)) → Q .normal (putsL a' []) w1
  | i :: r, e, w => ∀ w1, w.grownBy w1 none → G w1 → ∀ a, a.tmps.size = N → (∀ t, safeB ol i t = true → a.tmps.getD t undef = a0.tmps.getD t undef) → (∀ j oj d, depB ol i j = true → ol[j]? = some oj → oj.dst = some d → PhE ops φ e j (a.tmps.getD d undef)) →
      ∀ o, ol[i]? = some o → wpList P ol.toArray (fun ex a' w' => ex = .normal ∧ ∃ e', (∀ j u, PhE ops φ e j u → PhE ops φ e' j u) ∧ ((o.dst = none ∧ a' = a) ∨ ∃ d v, o.dst = some d ∧ a' = putsL a [(d, v)] ∧ PhE ops φ e' i v) ∧ (e'.length = e.length + 1 ∧ KE P ol ops φ G a0 N Q r e' w' ∧ G w')) [o] (putsL a []) w1
theorem KE.stable : ∀ {rs : List Nat} {e : List Value} {w w2 : World}, KE P ol ops φ G a0 N Q rs e w → w.grownBy w2 none → KE P ol ops φ G a0 N Q rs e w2
  | [], _, _, _, h, E => fun w1 E1 => h w1 (grown_trans E E1)
  | _ :: _, _, _, _, h, E => fun w1 E1 => h w1 (grown_trans E E1)
def ObE (P : Program) (ol : List Oper) (ops : List Nat) (φ : Nat → Value → Prop) (G : World → Prop) (a0 : Act) (N : Nat) (i : Nat) (o : Oper) : Prop :=
  ∀ (e : List Value) (a : Act) (w : World), a.tmps.size = N → G w → (∀ t, safeB ol i t = true → a.tmps.getD t undef = a0.tmps.getD t undef) → (∀ j oj d, depB ol i j = true → ol[j]? = some oj → oj.dst = some d → PhE ops φ e j (a.tmps.getD d undef)) →
    wpList P ol.toArray (fun ex a' w' => ex = .normal ∧ (∃ d v, o.dst = some d ∧ a' = putsL a [(d, v)] ∧ PhE ops φ e i v) ∧ w.grownBy w' none) [o] (putsL a []) w
def ObEs (P : Program) (ol : List Oper) (ops : List Nat) (φ : Nat → Value → Prop) (G : World → Prop) (a0 : Act) (N : Nat) : Nat → List Oper → Prop
  | _, [] => True
  | i, o :: r => (ops.contains i = false → ObE P ol ops φ G a0 N i o) ∧ ObEs P ol ops φ G a0 N (i + 1) r
theorem ObEs.nil {i : Nat} : ObEs P ol ops φ G a0 N i [] := trivial
theorem ObEs.cons {i : Nat} {o : Oper} {r : List Oper} (h : ObE P ol ops φ G a0 N i o) (h' : ObEs P ol ops φ G a0 N (i + 1) r) : ObEs P ol ops φ G a0 N i (o :: r) := ⟨fun _ => h, h'⟩
theorem ObEs.pass {i : Nat} {o : Oper} {r : List Oper} (hh : ops.contains i = true) (h' : ObEs P ol ops φ G a0 N (i + 1) r) : ObEs P ol ops φ G a0 N i (o :: r) := ⟨fun h => absurd (hh.symm.trans h) (by decide), h'⟩
theorem ObEs.getx : ∀ {l : List Oper} {i : Nat}, ObEs P ol ops φ G a0 N i l → ∀ j o, l[j]? = some o → ops.contains (i + j) = false → ObE P ol ops φ G a0 N (i + j) o
  | [], _, _, j, o, h, _ => by simp at h
  | o' :: r, i, h, 0, o, hj, hs => by simp at hj; subst hj; exact h.1 hs
  | o' :: r, i, h, j + 1, o, hj, hs => by
    have := ObEs.getx h.2 j o (by simpa using hj) (by rwa [show i + 1 + j = i + (j + 1) by omega])
    rwa [show i + 1 + j = i + (j + 1) by omega] at this
theorem any_env (ops : List Nat) (hlex : lexB' ol = true) (hdn : dstNB ol N = true) (hdst : dstsB ol = true) (hch : (⟨ops, fun _ => N⟩ : Chain).okB ol = true)
    {l : List (Nat × Value)} {w : World} (hN : a0.tmps.size = N) (hG : ∀ w1 w2, w1.grownBy w2 none → G w1 → G w2) (g0 : G w) (obL : ObEs P ol ops φ G (putsL a0 l) N 0 ol) (hdf : (putsL a0 l).defers = a0.defers)
    (main : KE P ol ops φ G (putsL a0 l) N Q ops [] w) : RegAny P ol Q (putsL a0 l) w := by
  have hnd : ops.Nodup := by
    have h := hch; simp only [Chain.okB, Bool.and_eq_true] at h; exact of_decide_eq_true h.2
  have hd : w.grownBy { w with drawn := w.drawn + 1 } none := ⟨rfl, rfl, rfl, Nat.le_refl _, fun _ _ _ => rfl⟩
  have I : RInv ol (fun j u _ => PhE ops φ [] j u) (fun c _ w => ([] : List Value).length = c ∧ KE P ol ops φ G (putsL a0 l) N Q (ops.drop c) [] w ∧ G w) ⟨ops, fun _ => N⟩ (putsL a0 l) N w (fun _ _ => True) (Array.replicate ol.length false) 0 (putsL a0 l) { w with drawn := w.drawn + 1 } := by
    refine ⟨slN hN, rfl, fun _ _ => rfl, fun j o d hj hl => ?_, fun j o hj hl => ?_, by simp, Nat.zero_le _, fun m i hm => ?_, ⟨rfl, main.stable hd, hG _ _ hd g0⟩, trivial⟩
    · have : j < ol.length := (List.getElem?_eq_some_iff.1 hj).1
      simp [Array.getD_eq_getD_getElem?, this] at hl
    · have : j < ol.length := (List.getElem?_eq_some_iff.1 hj).1
      simp [Array.getD_eq_getD_getElem?, this] at hl
    · have h3 : i < ol.length := by
        have hch' := hch
        simp only [Chain.okB, Bool.and_eq_true] at hch'
        have := List.all_eq_true.1 hch'.1.2 i (List.mem_of_getElem? hm)
        simpa [Nat.blt_eq] using this
      simp [Array.getD_eq_getD_getElem?, h3]
  have := region_env_steps (P := P) (Q := Q) (E := List Value) (Φ := fun e j u => PhE ops φ e j u) (C := fun e c w => e.length = c ∧ KE P ol ops φ G (putsL a0 l) N Q (ops.drop c) e w ∧ G w) (ch := ⟨ops, fun _ => N⟩) hlex hdn hdst hch w
    (fun e c w1 w2 E1 h => ⟨h.1, h.2.1.stable E1, hG _ _ E1 h.2.2⟩)
    (fun i o hi hh e a w1 c h1 h2 h3 h4 => by
      have hh' : ops.contains i = false := hh
      have h5 := ObEs.getx obL i o hi (by rw [Nat.zero_add]; exact hh') e a w1 h1 h2.2.2 (by rw [Nat.zero_add]; exact h3) (by rw [Nat.zero_add]; exact h4)
      rw [Nat.zero_add] at h5; exact h5)
    (fun c i o hc hi e a w1 h1 h2 h3 h4 => by
      obtain ⟨hl, hk, hg⟩ := h4
      have hdr : ops.drop c = i :: ops.drop (c + 1) := by
        have hlt : c < ops.length := (List.getElem?_eq_some_iff.1 hc).1
        rw [List.drop_eq_getElem_cons hlt, (List.getElem?_eq_some_iff.1 hc).2]
      rw [hdr] at hk
      subst hl
      exact hk w1 (grown_refl _ _) hg a h1 h2 h3 o hi)
    (fun a' w' e J => by
      have hk := J.chainC.2.1
      rw [List.drop_of_length_le (Nat.le_refl _)] at hk
      exact hk w' (grown_refl _ _) a' J.size (J.defers) (fun t ht => J.base t fun j o hj _ hd' => by
        have := List.all_eq_true.1 ht o (List.mem_of_getElem? hj)
        simp [hd'] at this) (fun j oj d hj hd' => J.phi j oj d hj (by
        have : j < ol.length := (List.getElem?_eq_some_iff.1 hj).1
        simp [Array.getD_eq_getD_getElem?, this]) hd'))
    ol.length (Array.replicate ol.length false) 0 (putsL a0 l) _ [] I (Nat.le_trans (List.countP_le_length) (by simp))
  exact this
theorem reg_env {id : Nat} (ops : List Nat) (hm : P.follows .mixedOrders = true) (hlex : lexB' ol = true) (hdn : dstNB ol N = true) (hdst : dstsB ol = true) (hch : (⟨ops, fun _ => N⟩ : Chain).okB ol = true)
    {l : List (Nat × Value)} {w : World} (hN : a0.tmps.size = N) (hG : ∀ w1 w2, w1.grownBy w2 none → G w1 → G w2) (g0 : G w) (obL : ObEs P ol ops φ G (putsL a0 l) N 0 ol) (hdf : (putsL a0 l).defers = a0.defers)
    (main : KE P ol ops φ G (putsL a0 l) N Q ops [] w) : (Code.region id ol.toArray true).wp P Q (putsL a0 l) w := reg_of_any hm (any_env ops hlex hdn hdst hch hN hG g0 obL hdf main)
theorem ke_end {o : Oper} {i d : Nat} {v : Value} {a : Act} {w : World} {e : List Value} {r : List Nat} (hi : ops[e.length]? = some i) (hnd : ops.Nodup) (hd : o.dst = some d) (g : G w) (h : KE P ol ops φ G a0 N Q r (e ++ [v]) w) :
    wpList P ol.toArray (fun ex a' w' => ex = .normal ∧ ∃ e', (∀ j u, PhE ops φ e j u → PhE ops φ e' j u) ∧ ((o.dst = none ∧ a' = a) ∨ ∃ d v, o.dst = some d ∧ a' = putsL a [(d, v)] ∧ PhE ops φ e' i v) ∧ (e'.length = e.length + 1 ∧ KE P ol ops φ G a0 N Q r e' w' ∧ G w')) [] (putsL a [(d, v)]) w :=
  ⟨rfl, e ++ [v], fun _ _ h => h.mono, .inr ⟨d, v, hd, rfl, fun c' hc' => by
    have : c' = e.length := (List.getElem?_inj (List.getElem?_eq_some_iff.1 hc').1 hnd).1 (by rw [hc', hi])
    subst this; simp, fun hh => by
    have : ops.contains i = true := by simpa using List.mem_of_getElem? hi
    exact absurd (this.symm.trans hh) (by decide)⟩, by simp, h, g⟩
theorem ke_end0 {o : Oper} {i : Nat} {a : Act} {w : World} {e : List Value} {r : List Nat} (hd : o.dst = none) (g : G w) (h : KE P ol ops φ G a0 N Q r (e ++ [undef]) w) :
    wpList P ol.toArray (fun ex a' w' => ex = .normal ∧ ∃ e', (∀ j u, PhE ops φ e j u → PhE ops φ e' j u) ∧ ((o.dst = none ∧ a' = a) ∨ ∃ d v, o.dst = some d ∧ a' = putsL a [(d, v)] ∧ PhE ops φ e' i v) ∧ (e'.length = e.length + 1 ∧ KE P ol ops φ G a0 N Q r e' w' ∧ G w')) [] (putsL a []) w := ⟨rfl, e ++ [undef], fun _ _ h => h.mono, .inl ⟨hd, rfl⟩, by simp, h, g⟩
theorem obE_end {o : Oper} {i d : Nat} {v : Value} {a : Act} {w : World} {e : List Value} (hh : ops.contains i = false) (hd : o.dst = some d) (hv : φ i v) :
    wpList P ol.toArray (fun ex a' w' => ex = .normal ∧ (∃ d v, o.dst = some d ∧ a' = putsL a [(d, v)] ∧ PhE ops φ e i v) ∧ w.grownBy w' none) [] (putsL a [(d, v)]) w := ⟨rfl, ⟨d, v, hd, rfl, PhE.light hh hv⟩, grown_refl _ _⟩
end
end Go.Gx

namespace Go.Gx
open Go.RowKit
section
variable {P : Program} {ol : List Oper} {Q : Exit → Act → World → Prop} {E : Type} {Φ : E → Nat → Value → Prop} {C : E → Nat → World → Prop} {ch : Chain} {a0 : Act} {N : Nat}
def ObNK (P : Program) (ol : List Oper) (ops : List Nat) (Φ : E → Nat → Value → Prop) (C : E → Nat → World → Prop) (a0 : Act) (N : Nat) (i : Nat) (o : Oper) : Prop :=
  ∀ (e : E) (a : Act) (w : World) (c : Nat), a.tmps.size = N → (∀ m k, ops[m]? = some k → depB ol k i = true → c ≤ m) → C e c w → (∀ t, safeB ol i t = true → a.tmps.getD t undef = a0.tmps.getD t undef) → (∀ j oj d, depB ol i j = true → ol[j]? = some oj → oj.dst = some d → Φ e j (a.tmps.getD d undef)) →
    wpList P ol.toArray (fun ex a' w' => ex = .normal ∧ (∃ d v, o.dst = some d ∧ a' = putsL a [(d, v)] ∧ Φ e i v) ∧ w.grownBy w' none) [o] (putsL a []) w
def ObCK (P : Program) (ol : List Oper) (Φ : E → Nat → Value → Prop) (C : E → Nat → World → Prop) (a0 : Act) (N : Nat) (c i : Nat) (o : Oper) : Prop :=
  ∀ (e : E) (a : Act) (w : World), a.tmps.size = N → (∀ t, safeB ol i t = true → a.tmps.getD t undef = a0.tmps.getD t undef) → (∀ j oj d, depB ol i j = true → ol[j]? = some oj → oj.dst = some d → Φ e j (a.tmps.getD d undef)) → C e c w →
    wpList P ol.toArray (fun ex a' w' => ex = .normal ∧ ∃ e', (∀ j u, Φ e j u → Φ e' j u) ∧ ((o.dst = none ∧ a' = a) ∨ ∃ d v, o.dst = some d ∧ a' = putsL a [(d, v)] ∧ Φ e' i v) ∧ C e' (c + 1) w') [o] (putsL a []) w
theorem region_envk_steps (hlex : lexB' ol = true) (hdn : dstNB ol N = true) (hdst : dstsB ol = true) (hch : ch.okB ol = true) (w0 : World)
    (hC : ∀ e c w1 w2, w1.grownBy w2 none → C e c w1 → C e c w2)
    (obN : ∀ i o, ol[i]? = some o → ch.has i = false → ObNK P ol ch.ops Φ C a0 N i o) (obC : ∀ c i o, ch.ops[c]? = some i → ol[i]? = some o → ObCK P ol Φ C a0 N c i o)
    (fin : ∀ a w e, RInv ol (fun j u _ => Φ e j u) (fun c _ w => C e c w) ch a0 N w0 (fun _ _ => True) (Array.replicate ol.length true) ch.ops.length a w → Q .normal a w) :
    ∀ (fuel : Nat) (listed : Array Bool) (c : Nat) (a : Act) (w : World) (e : E), RInv ol (fun j u _ => Φ e j u) (fun c _ w => C e c w) ch a0 N w0 (fun _ _ => True) listed c a w → (List.range ol.length).countP (fun i => !listed.getD i true) ≤ fuel → wpAny P .any ol.toArray Q fuel listed a w := by
  have hch' := hch
  simp only [Chain.okB, Bool.and_eq_true] at hch'
  obtain ⟨⟨⟨hc1, hc2⟩, hc3⟩, hc4⟩ := hch'
  have done : ∀ (listed : Array Bool) (c : Nat) (a : Act) (w : World) (e : E), RInv ol (fun j u _ => Φ e j u) (fun c _ w => C e c w) ch a0 N w0 (fun _ _ => True) listed c a w → Region.ready .any ol.toArray listed = [] → Q .normal a w := by
    intro listed c a w ee I hr
    have hall : ∀ i, i < ol.length → listed.getD i true = true := by
      intro i
      induction i using Nat.strongRecOn with
      | _ i ih =>
        intro hi
        by_cases hq : listed.getD i true = true
        · exact hq
        · exfalso
          have hm : i ∈ Region.ready .any ol.toArray listed := by
            rw [mem_ready]
            refine ⟨by simpa using hq, ol[i], by simp [hi], fun e he hb => ?_⟩
            have h1 := List.all_eq_true.1 hlex i (by simp [hi])
            simp only [List.getElem?_eq_getElem hi, Array.all_eq_true_iff_forall_mem, Bool.or_eq_true, Bool.not_eq_true', Nat.blt_eq] at h1
            have h2 := (h1 e he).resolve_left (by simp [hb])
            exact getD_true_lt (ih e.on h2 (by omega)) (by rw [I.lsize]; omega)
          rw [hr] at hm
          cases hm
    have hl : listed = Array.replicate ol.length true := by
      apply Array.ext
      · simp [I.lsize]
      · intro i h1 h2
        have := hall i (by simpa using h2)
        simp [Array.getD_eq_getD_getElem?, h1] at this
        simp [this]
    have hcc : c = ch.ops.length := by
      rcases Nat.lt_or_ge c ch.ops.length with h | h
      · exfalso
        have h1 := (I.chain c ch.ops[c] (by simp [h])).1 (hall _ (by
          have := List.all_eq_true.1 hc3 ch.ops[c] (List.getElem_mem h)
          simpa [Nat.blt_eq] using this))
        omega
      · exact Nat.le_antisymm I.cle h
    subst hl; subst hcc
    exact fin a w ee I
  intro fuel
  induction fuel with
  | zero =>
    intro listed c a w ee I hcnt
    have hr : Region.ready .any ol.toArray listed = [] := by
      rw [List.eq_nil_iff_forall_not_mem]
      intro i hi
      obtain ⟨h1, o, ho, _⟩ := mem_ready.1 hi
      have hlt : i < ol.length := by simpa using (Array.getElem?_eq_some_iff.1 ho).1
      have hz : (List.range ol.length).countP (fun i => !listed.getD i true) = 0 := by omega
      rw [List.countP_eq_zero] at hz
      exact hz i (by simp [hlt]) (by simp [h1])
    exact ⟨hr, done listed c a w ee I hr⟩
  | succ fuel ih =>
    intro listed c a w ee I hcnt
    refine ⟨fun hr => done listed c a w ee I hr, fun i hi => ?_⟩
    obtain ⟨hun, o, ho, hwait⟩ := mem_ready.1 hi
    have ho' : ol[i]? = some o := by simpa using ho
    have hlt : i < ol.length := (List.getElem?_eq_some_iff.1 ho').1
    have hls : i < listed.size := by rw [I.lsize]; exact hlt
    have hcnt' : (List.range ol.length).countP (fun j => !(listed.setIfInBounds i true).getD j true) ≤ fuel := by
      have : (List.range ol.length).countP (fun j => !(listed.setIfInBounds i true).getD j true) < (List.range ol.length).countP (fun j => !listed.getD j true) := by
        refine countP_lt _ _ (fun y hy => ?_) _ i (by simp [hlt]) (by simp [hun]) (by simp [Array.getD_eq_getD_getElem?, hls])
        by_cases hiy : i = y
        · subst hiy; simp [Array.getD_eq_getD_getElem?, hls] at hy
        · rwa [getD_set_ne true hiy] at hy
      omega
    have hbase : ∀ t, safeB ol i t = true → a.tmps.getD t undef = a0.tmps.getD t undef := by
      intro t ht
      refine I.base t fun j oj hj hlj hd => ?_
      have h1 := List.all_eq_true.1 ht oj (List.mem_of_getElem? hj)
      simp only [Bool.or_eq_true, bne_iff_ne, ne_eq, Array.any_eq_true, Bool.and_eq_true, beq_iff_eq] at h1
      rcases h1 with h1 | ⟨q, hq, h1, h2⟩
      · exact h1 hd
      · have := getD_of_false (I.closed j oj hj hlj _ (Array.getElem_mem hq) h2)
        rw [h1, hun] at this
        cases this
    have hdep : ∀ j oj d, depB ol i j = true → ol[j]? = some oj → oj.dst = some d → Φ ee j (a.tmps.getD d undef) := by
      intro j oj d hj hoj hd
      obtain ⟨e, he, h1, h2⟩ := depB_spec ho' hj
      exact I.phi j oj d hoj (getD_of_false (by rw [← h1]; exact hwait e he h2)) hd
    have hset : ∀ j, j ≠ i → (listed.setIfInBounds i true).getD j true = listed.getD j true := fun j hj => getD_set_ne true (Ne.symm hj)
    have hseti : (listed.setIfInBounds i true).getD i true = true := by simp [Array.getD_eq_getD_getElem?, hls]
    have hclosed : ∀ j oj, ol[j]? = some oj → (listed.setIfInBounds i true).getD j true = true → ∀ e ∈ oj.after, Region.binds .any e = true → (listed.setIfInBounds i true).getD e.on false = true := by
      intro j oj hoj hlj e he hb
      refine getD_set_true ?_
      by_cases hji : j = i
      · subst hji
        rw [ho'] at hoj; cases hoj
        exact hwait e he hb
      · rw [hset j hji] at hlj
        exact I.closed j oj hoj hlj e he hb
    have hne : ∀ j oj d, ol[j]? = some oj → j ≠ i → o.dst = some d → oj.dst ≠ some d := by
      intro j oj d hoj hji hd hd'
      have hj : j < ol.length := (List.getElem?_eq_some_iff.1 hoj).1
      have h1 := List.all_eq_true.1 (List.all_eq_true.1 hdst i (by simp [hlt])) j (by simp [hj])
      simp only [ho', hoj, Bool.or_eq_true, beq_iff_eq, bne_iff_ne, ne_eq] at h1
      rcases h1 with h1 | h1 | h1
      · exact hji h1.symm
      · exact h1 (by rw [hd, hd'])
      · rw [hd] at h1; cases h1
    -- what is left of the frame, behind a value in slot d
    have hframe : ∀ d v (e' : E), o.dst = some d → (∀ j u, Φ ee j u → Φ e' j u) → Φ e' i v → 
        (∀ t, (∀ j oj, ol[j]? = some oj → (listed.setIfInBounds i true).getD j true = true → oj.dst ≠ some t) → (putsL a [(d, v)]).tmps.getD t undef = a0.tmps.getD t undef) ∧
        (∀ j oj d', ol[j]? = some oj → (listed.setIfInBounds i true).getD j true = true → oj.dst = some d' → Φ e' j ((putsL a [(d, v)]).tmps.getD d' undef)) := by
      intro d v e' hd hR hv
      have hdN : d < a.tmps.size := by
        have h1 := List.all_eq_true.1 hdn o (List.mem_of_getElem? ho')
        simp only [hd, Nat.blt_eq] at h1
        rw [I.size]; exact h1
      refine ⟨fun t ht => ?_, fun j oj d' hoj hlj hd' => ?_⟩
      · have hdt : d ≠ t := fun e => ht i o ho' hseti (by rw [hd, e])
        rw [get_put_ne hdt]
        refine I.base t fun j oj hoj hlj => ?_
        by_cases hji : j = i
        · subst hji; rw [hun] at hlj; cases hlj
        · exact ht j oj hoj (by rw [hset j hji]; exact hlj)
      · by_cases hji : j = i
        · subst hji
          rw [ho'] at hoj; cases hoj
          rw [hd] at hd'; cases hd'
          rw [get_put_eq hdN]
          exact hv
        · rw [hset j hji] at hlj
          have : d ≠ d' := fun e => hne j oj d hoj hji hd (by rw [hd', e])
          rw [get_put_ne this]
          exact hR j _ (I.phi j oj d' hoj hlj hd')
    by_cases hin : ch.has i = true
    · have hmem : i ∈ ch.ops := by simpa [Chain.has] using hin
      obtain ⟨c0, hc0, hci⟩ := List.getElem_of_mem hmem
      have hci' : ch.ops[c0]? = some i := by simp [hc0, hci]
      have hcc : c0 = c := by
        have h1 : ¬ c0 < c := fun h => by
          have := (I.chain c0 i hci').2 h
          rw [hun] at this; cases this
        rcases Nat.lt_or_ge c c0 with h2 | h2
        · exfalso
          have h3 := List.all_eq_true.1 hc1 c0 (by simp [hc0])
          have hz : (c0 == 0) = false := by simp; omega
          have hp : ch.ops.getD (c0 - 1) 0 = ch.ops[c0 - 1] := by simp [List.getD_eq_getElem?_getD, show c0 - 1 < ch.ops.length by omega]
          have hq : ch.ops.getD c0 0 = i := by simp [List.getD_eq_getElem?_getD, hc0, hci]
          rw [hz, hp, hq, Bool.false_or] at h3
          obtain ⟨e, he, h4, h5⟩ := depB_spec ho' h3
          have h6 := getD_of_false (hwait e he h5)
          rw [h4] at h6
          have := (I.chain (c0 - 1) ch.ops[c0 - 1] (by simp [show c0 - 1 < ch.ops.length by omega])).1 h6
          omega
        · omega
      subst hcc
      refine wp_one (by simpa using ho') (obC c0 i o hci' ho' ee a w I.size hbase hdep I.chainC) fun a' w' h => ?_
      obtain ⟨e', hm, h1, h2⟩ := h
      have hchain : ∀ m i', ch.ops[m]? = some i' → ((listed.setIfInBounds i true).getD i' true = true ↔ m < c0 + 1) := by
        intro m i' hm
        by_cases hii : i' = i
        · subst hii
          have : m = c0 := by
            have hnd : ch.ops.Nodup := of_decide_eq_true hc4
            have hmlt : m < ch.ops.length := (List.getElem?_eq_some_iff.1 hm).1
            exact (List.getElem?_inj hmlt hnd).1 (by rw [hm, hci'])
          exact ⟨fun _ => by omega, fun _ => hseti⟩
        · rw [hset i' hii, I.chain m i' hm]
          refine ⟨fun h => by omega, fun h => ?_⟩
          rcases Nat.lt_or_ge m c0 with h' | h'
          · exact h'
          · have : m = c0 := by omega
            subst this
            rw [hci'] at hm; exact absurd (Option.some.inj hm).symm hii
      refine ih _ (c0 + 1) a' w' e' ?_ hcnt'
      rcases h1 with ⟨hd, rfl⟩ | ⟨d, v, hd, rfl, hv⟩
      · refine ⟨I.size, I.defers, fun t ht => ?_, fun j oj d' hoj hlj hd' => ?_, hclosed, by simp [I.lsize], by omega, hchain, h2, trivial⟩
        · refine I.base t fun j oj hoj hlj => ?_
          by_cases hji : j = i
          · subst hji; rw [hun] at hlj; cases hlj
          · exact ht j oj hoj (by rw [hset j hji]; exact hlj)
        · by_cases hji : j = i
          · subst hji
            rw [ho'] at hoj; cases hoj
            rw [hd] at hd'; cases hd'
          · rw [hset j hji] at hlj
            exact hm j _ (I.phi j oj d' hoj hlj hd')
      · obtain ⟨f1, f2⟩ := hframe d v e' hd hm hv
        exact ⟨by rw [putsL_size, I.size], by rw [putsL_defers, I.defers], f1, f2, hclosed, by simp [I.lsize], by omega, hchain, h2, trivial⟩
    · have hin' : ch.has i = false := by simpa using hin
      have hck : ∀ m k, ch.ops[m]? = some k → depB ol k i = true → c ≤ m := by
        intro m k hm hdk
        rcases Nat.lt_or_ge m c with hlt2 | hge
        · exfalso
          have h1 := (I.chain m k hm).2 hlt2
          cases hok : ol[k]? with
          | none => simp [depB, hok] at hdk
          | some ok =>
            obtain ⟨e, he, h4, h5⟩ := depB_spec hok hdk
            have h6 := getD_of_false (I.closed k ok hok h1 e he h5)
            rw [h4, hun] at h6; cases h6
        · exact hge
      refine wp_one (by simpa using ho') (obN i o ho' hin' ee a w c I.size hck I.chainC hbase hdep) fun a' w' h => ?_
      obtain ⟨⟨d, v, hd, rfl, hv⟩, hg⟩ := h
      obtain ⟨f1, f2⟩ := hframe d v ee hd (fun _ _ h => h) hv
      refine ih _ c _ w' ee ⟨by rw [putsL_size, I.size], by rw [putsL_defers, I.defers], f1, f2, hclosed, by simp [I.lsize], I.cle, ?_, hC _ _ w w' hg I.chainC, trivial⟩ hcnt'
      · intro m i' hm
        have hii : i' ≠ i := by
          rintro rfl
          have : ch.has i' = true := by simpa [Chain.has] using List.mem_of_getElem? hm
          rw [hin'] at this; cases this
        rw [hset i' hii]
        exact I.chain m i' hm
end

section
variable {P : Program} {ol : List Oper} {Q : Exit → Act → World → Prop} {ops : List Nat} {φ : Nat → Value → Prop} {G : Nat → World → Prop} {a0 : Act} {N : Nat}
def PhK (ops : List Nat) (φ : Nat → Value → Prop) (e : List Value) (j : Nat) (u : Value) : Prop := (∀ c : Nat, ops[c]? = some j → e[c]? = some u) ∧ (ops.contains j = false → φ j u)
theorem PhK.mono {e : List Value} {v : Value} {j : Nat} {u : Value} (h : PhK ops φ e j u) : PhK ops φ (e ++ [v]) j u :=
  ⟨fun c hc => by have h1 := h.1 c hc; have hl := (List.getElem?_eq_some_iff.1 h1).1; rw [List.getElem?_append_left hl]; exact h1, h.2⟩
theorem PhK.light {j : Nat} {e : List Value} {u : Value} (hh : ops.contains j = false) (h : φ j u) : PhK ops φ e j u :=
  ⟨fun c hc => by have : ops.contains j = true := by simpa using List.mem_of_getElem? hc
                  exact absurd (this.symm.trans hh) (by decide), fun _ => h⟩
def KK (P : Program) (ol : List Oper) (ops : List Nat) (φ : Nat → Value → Prop) (G : Nat → World → Prop) (a0 : Act) (N : Nat) (Q : Exit → Act → World → Prop) : List Nat → List Value → World → Prop
  | [], e, w => ∀ w1, w.grownBy w1 none → ∀ a', a'.tmps.size = N → a'.defers = a0.defers → (∀ t, (ol.all fun o => o.dst != some t) = true → a'.tmps.getD t undef = a0.tmps.getD t undef) →
      (∀ j oj d, ol[j]? = some oj → oj.dst = some d → PhK ops φ e j (a'.tmps.getD d undef)) → Q .normal (putsL a' []) w1
  | i :: r, e, w => ∀ w1, w.grownBy w1 none → G e.length w1 → ∀ a, a.tmps.size = N → (∀ t, safeB ol i t = true → a.tmps.getD t undef = a0.tmps.getD t undef) → (∀ j oj d, depB ol i j = true → ol[j]? = some oj → oj.dst = some d → PhK ops φ e j (a.tmps.getD d undef)) →
      ∀ o, ol[i]? = some o → wpList P ol.toArray (fun ex a' w' => ex = .normal ∧ ∃ e', (∀ j u, PhK ops φ e j u → PhK ops φ e' j u) ∧ ((o.dst = none ∧ a' = a) ∨ ∃ d v, o.dst = some d ∧ a' = putsL a [(d, v)] ∧ PhK ops φ e' i v) ∧ (e'.length = e.length + 1 ∧ KK P ol ops φ G a0 N Q r e' w' ∧ G (e.length + 1) w')) [o] (putsL a []) w1
theorem KK.stable : ∀ {rs : List Nat} {e : List Value} {w w2 : World}, KK P ol ops φ G a0 N Q rs e w → w.grownBy w2 none → KK P ol ops φ G a0 N Q rs e w2
  | [], _, _, _, h, E => fun w1 E1 => h w1 (grown_trans E E1)
  | _ :: _, _, _, _, h, E => fun w1 E1 => h w1 (grown_trans E E1)
def ObK (P : Program) (ol : List Oper) (ops : List Nat) (φ : Nat → Value → Prop) (G : Nat → World → Prop) (a0 : Act) (N : Nat) (i : Nat) (o : Oper) : Prop :=
  ∀ (e : List Value) (a : Act) (w : World), a.tmps.size = N → (∀ m k, ops[m]? = some k → depB ol k i = true → e.length ≤ m) → G e.length w → (∀ t, safeB ol i t = true → a.tmps.getD t undef = a0.tmps.getD t undef) → (∀ j oj d, depB ol i j = true → ol[j]? = some oj → oj.dst = some d → PhK ops φ e j (a.tmps.getD d undef)) →
    wpList P ol.toArray (fun ex a' w' => ex = .normal ∧ (∃ d v, o.dst = some d ∧ a' = putsL a [(d, v)] ∧ PhK ops φ e i v) ∧ w.grownBy w' none) [o] (putsL a []) w
def ObKs (P : Program) (ol : List Oper) (ops : List Nat) (φ : Nat → Value → Prop) (G : Nat → World → Prop) (a0 : Act) (N : Nat) : Nat → List Oper → Prop
  | _, [] => True
  | i, o :: r => (ops.contains i = false → ObK P ol ops φ G a0 N i o) ∧ ObKs P ol ops φ G a0 N (i + 1) r
theorem ObKs.nil {i : Nat} : ObKs P ol ops φ G a0 N i [] := trivial
theorem ObKs.cons {i : Nat} {o : Oper} {r : List Oper} (h : ObK P ol ops φ G a0 N i o) (h' : ObKs P ol ops φ G a0 N (i + 1) r) : ObKs P ol ops φ G a0 N i (o :: r) := ⟨fun _ => h, h'⟩
theorem ObKs.pass {i : Nat} {o : Oper} {r : List Oper} (hh : ops.contains i = true) (h' : ObKs P ol ops φ G a0 N (i + 1) r) : ObKs P ol ops φ G a0 N i (o :: r) := ⟨fun h => absurd (hh.symm.trans h) (by decide), h'⟩
theorem ObKs.getx : ∀ {l : List Oper} {i : Nat}, ObKs P ol ops φ G a0 N i l → ∀ j o, l[j]? = some o → ops.contains (i + j) = false → ObK P ol ops φ G a0 N (i + j) o
  | [], _, _, j, o, h, _ => by simp at h
  | o' :: r, i, h, 0, o, hj, hs => by simp at hj; subst hj; exact h.1 hs
  | o' :: r, i, h, j + 1, o, hj, hs => by
    have := ObKs.getx h.2 j o (by simpa using hj) (by rwa [show i + 1 + j = i + (j + 1) by omega])
    rwa [show i + 1 + j = i + (j + 1) by omega] at this
theorem any_envk (ops : List Nat) (hlex : lexB' ol = true) (hdn : dstNB ol N = true) (hdst : dstsB ol = true) (hch : (⟨ops, fun _ => N⟩ : Chain).okB ol = true)
    {l : List (Nat × Value)} {w : World} (hN : a0.tmps.size = N) (hG : ∀ c w1 w2, w1.grownBy w2 none → G c w1 → G c w2) (g0 : G 0 w) (obL : ObKs P ol ops φ G (putsL a0 l) N 0 ol) (hdf : (putsL a0 l).defers = a0.defers)
    (main : KK P ol ops φ G (putsL a0 l) N Q ops [] w) : RegAny P ol Q (putsL a0 l) w := by
  have hnd : ops.Nodup := by
    have h := hch; simp only [Chain.okB, Bool.and_eq_true] at h; exact of_decide_eq_true h.2
  have hd : w.grownBy { w with drawn := w.drawn + 1 } none := ⟨rfl, rfl, rfl, Nat.le_refl _, fun _ _ _ => rfl⟩
  have I : RInv ol (fun j u _ => PhK ops φ [] j u) (fun c _ w => ([] : List Value).length = c ∧ KK P ol ops φ G (putsL a0 l) N Q (ops.drop c) [] w ∧ G c w) ⟨ops, fun _ => N⟩ (putsL a0 l) N w (fun _ _ => True) (Array.replicate ol.length false) 0 (putsL a0 l) { w with drawn := w.drawn + 1 } := by
    refine ⟨slN hN, rfl, fun _ _ => rfl, fun j o d hj hl => ?_, fun j o hj hl => ?_, by simp, Nat.zero_le _, fun m i hm => ?_, ⟨rfl, main.stable hd, hG _ _ _ hd g0⟩, trivial⟩
    · have : j < ol.length := (List.getElem?_eq_some_iff.1 hj).1
      simp [Array.getD_eq_getD_getElem?, this] at hl
    · have : j < ol.length := (List.getElem?_eq_some_iff.1 hj).1
      simp [Array.getD_eq_getD_getElem?, this] at hl
    · have h3 : i < ol.length := by
        have hch' := hch
        simp only [Chain.okB, Bool.and_eq_true] at hch'
        have := List.all_eq_true.1 hch'.1.2 i (List.mem_of_getElem? hm)
        simpa [Nat.blt_eq] using this
      simp [Array.getD_eq_getD_getElem?, h3]
  have := region_envk_steps (P := P) (Q := Q) (E := List Value) (Φ := fun e j u => PhK ops φ e j u) (C := fun e c w => e.length = c ∧ KK P ol ops φ G (putsL a0 l) N Q (ops.drop c) e w ∧ G c w) (ch := ⟨ops, fun _ => N⟩) hlex hdn hdst hch w
    (fun e c w1 w2 E1 h => ⟨h.1, h.2.1.stable E1, hG _ _ _ E1 h.2.2⟩)
    (fun i o hi hh e a w1 c h1 hck h2 h3 h4 => by
      have hh' : ops.contains i = false := hh
      obtain ⟨hl, h2⟩ := h2
      subst hl
      have h5 := ObKs.getx obL i o hi (by rw [Nat.zero_add]; exact hh') e a w1 h1 (by rw [Nat.zero_add]; exact hck) h2.2 (by rw [Nat.zero_add]; exact h3) (by rw [Nat.zero_add]; exact h4)
      rw [Nat.zero_add] at h5; exact h5)
    (fun c i o hc hi e a w1 h1 h2 h3 h4 => by
      obtain ⟨hl, hk, hg⟩ := h4
      have hdr : ops.drop c = i :: ops.drop (c + 1) := by
        have hlt : c < ops.length := (List.getElem?_eq_some_iff.1 hc).1
        rw [List.drop_eq_getElem_cons hlt, (List.getElem?_eq_some_iff.1 hc).2]
      rw [hdr] at hk
      subst hl
      exact (hk w1 (grown_refl _ _) hg a h1 h2 h3 o hi))
    (fun a' w' e J => by
      have hk := J.chainC.2.1
      rw [List.drop_of_length_le (Nat.le_refl _)] at hk
      exact hk w' (grown_refl _ _) a' J.size (J.defers) (fun t ht => J.base t fun j o hj _ hd' => by
        have := List.all_eq_true.1 ht o (List.mem_of_getElem? hj)
        simp [hd'] at this) (fun j oj d hj hd' => J.phi j oj d hj (by
        have : j < ol.length := (List.getElem?_eq_some_iff.1 hj).1
        simp [Array.getD_eq_getD_getElem?, this]) hd'))
    ol.length (Array.replicate ol.length false) 0 (putsL a0 l) _ [] I (Nat.le_trans (List.countP_le_length) (by simp))
  exact this
theorem kk_end0 {o : Oper} {i : Nat} {a : Act} {w : World} {e : List Value} {r : List Nat} (hd : o.dst = none) (g : G (e.length + 1) w) (h : KK P ol ops φ G a0 N Q r (e ++ [undef]) w) :
    wpList P ol.toArray (fun ex a' w' => ex = .normal ∧ ∃ e', (∀ j u, PhK ops φ e j u → PhK ops φ e' j u) ∧ ((o.dst = none ∧ a' = a) ∨ ∃ d v, o.dst = some d ∧ a' = putsL a [(d, v)] ∧ PhK ops φ e' i v) ∧ (e'.length = e.length + 1 ∧ KK P ol ops φ G a0 N Q r e' w' ∧ G (e.length + 1) w')) [] (putsL a []) w := ⟨rfl, e ++ [undef], fun _ _ h => h.mono, .inl ⟨hd, rfl⟩, by simp, h, g⟩
theorem obK_end {o : Oper} {i d : Nat} {v : Value} {a : Act} {w : World} {e : List Value} (hh : ops.contains i = false) (hd : o.dst = some d) (hv : φ i v) :
    wpList P ol.toArray (fun ex a' w' => ex = .normal ∧ (∃ d v, o.dst = some d ∧ a' = putsL a [(d, v)] ∧ PhK ops φ e i v) ∧ w.grownBy w' none) [] (putsL a [(d, v)]) w := ⟨rfl, ⟨d, v, hd, rfl, PhK.light hh hv⟩, grown_refl _ _⟩
end
end Go.Gx

namespace Go.Proofs.Ytcpfdfejojghbaa
open Go.Gx Go.RowKit
attribute [local irreducible] wpList wpStill Code.wp Calls
open Go.Bt
theorem halvesLsI {p : Nat} {pv : Value} {D : List (DP (Int))} {w : World} (hx : Bx w p 115 [pv, .slice none 0 0, .slice none 0 0]) (op : Own w 0 51 2 pv D.length (D.flatMap cI)) (h6 : D.length ≤ 6) : Ret Try.prog 86 #[(ptr p 0)] w (fun v' w' => v' = .tuple #[.slice none 0 0, .pointer none] ∧ w' = w) := by
 refine enter (N := 104) Try.func86 rfl rfl (by simp) fun a0 hN hd hA => ?_
 have s0 : a0.tmps.getD 0 undef = (ptr p 0) := hA 0 (by simp)
 clear hA
 refine seq_any fun K1 hK1 => one_reg (op_assign rfl (op_assign rfl ?_))
 refine reg_nil (hK1 _ _ (seq_any fun K3 hK3 => seq_any fun K4 hK4 => one_reg (op_move (ev_base hN rfl s0) (op_fn (vs := [(ptr p 0)]) ok52 ⟨(ev_hit hN rfl), trivial⟩ (Ret.flip (sizeLI hx op)) ?_))))
 rintro _ _ ⟨rfl, rfl⟩
 refine op_leq (ev_hit hN rfl) rfl (fun c10 => ?_) (fun c10 => ?_)
 ·
  refine reg_nil (hK4 _ _ (wp_cond_true (ev_hit hN rfl) ?_))
  refine seq_any fun K5 hK5 => one_reg (op_assign rfl (op_assign rfl (reg_nil (hK5 _ _ (wp_ret (then_ret ( ?_)))))))
  refine ret2 rfl hd (ev_hit hN rfl) (ev_hit hN rfl) ⟨_, rfl, ?_⟩
  exact ⟨rfl, rfl⟩
 ·
  exfalso; omega

theorem halvesNsI {p : Nat} {kv cv : Value} {K : List DK} {P : List Nat} {w : World} (hx : Bx w p 115 [.slice none 0 0, kv, cv]) (ok : Own w 0 27 1 kv K.length (K.flatMap cK)) (oc : Own w 0 69 1 cv P.length (P.flatMap cN)) (hP : P.length = K.length + 1) (h6 : K.length ≤ 6) : Ret Try.prog 86 #[(ptr p 0)] w (fun v' w' => v' = .tuple #[.slice none 0 0, .pointer none] ∧ w' = w) := by
 refine enter (N := 104) Try.func86 rfl rfl (by simp) fun a0 hN hd hA => ?_
 have s0 : a0.tmps.getD 0 undef = (ptr p 0) := hA 0 (by simp)
 clear hA
 refine seq_any fun K1 hK1 => one_reg (op_assign rfl (op_assign rfl ?_))
 refine reg_nil (hK1 _ _ (seq_any fun K3 hK3 => seq_any fun K4 hK4 => one_reg (op_move (ev_base hN rfl s0) (op_fn (vs := [(ptr p 0)]) ok52 ⟨(ev_hit hN rfl), trivial⟩ (Ret.flip (sizeNI hx ok oc (by omega) (by omega))) ?_))))
 rintro _ _ ⟨rfl, rfl⟩
 refine op_leq (ev_hit hN rfl) rfl (fun c10 => ?_) (fun c10 => ?_)
 ·
  refine reg_nil (hK4 _ _ (wp_cond_true (ev_hit hN rfl) ?_))
  refine seq_any fun K5 hK5 => one_reg (op_assign rfl (op_assign rfl (reg_nil (hK5 _ _ (wp_ret (then_ret ( ?_)))))))
  refine ret2 rfl hd (ev_hit hN rfl) (ev_hit hN rfl) ⟨_, rfl, ?_⟩
  exact ⟨rfl, rfl⟩
 ·
  exfalso; omega

theorem halvesLbI {p : Nat} {pv : Value} {D : List (DP (Int))} {w : World} (hx : Bx w p 115 [pv, .slice none 0 0, .slice none 0 0]) (op : Own w 0 51 2 pv D.length (D.flatMap cI)) (ks : ∀ x9 ∈ D.map pk, Own w 0 5 1 x9.1 x9.2.length (x9.2.map u8v)) (h6 : 6 < D.length) (hn : D.length ≤ 1000) : Ret Try.prog 86 #[(ptr p 0)] w (fun v' w' => Gr w w' (fun y => y = p) ∧ ∃ q qv, v' = .tuple #[((D.drop (D.length - 3)).getD 0 default).1, ptr q 0] ∧ Bx w' p 115 [hiV pv (D.length - 3), .slice none 0 0, .slice none 0 0] ∧ Own w' 0 51 2 (hiV pv (D.length - 3)) (D.take (D.length - 3)).length ((D.take (D.length - 3)).flatMap cI) ∧ w.heap.size ≤ q ∧ Bx w' q 115 [qv, .slice none 0 0, .slice none 0 0] ∧ Own w' w.heap.size 51 2 qv (D.drop (D.length - 3)).length ((D.drop (D.length - 3)).flatMap cI)) := by
 have hi_p := hx.lt
 obtain ⟨cp, hcp1, hcp2, hcp3⟩ := op.cap
 have hb := Gr.refl w (fun y => y = p)
 refine enter (N := 104) Try.func86 rfl rfl (by simp) fun a0 hN hd hA => ?_
 have s0 : a0.tmps.getD 0 undef = (ptr p 0) := hA 0 (by simp)
 clear hA
 refine seq_any fun K4 hK4 => one_reg (op_assign rfl (op_assign rfl ?_))
 refine reg_nil (hK4 _ _ (seq_any fun K5 hK5 => seq_any fun K7 hK7 => one_reg (op_move (ev_base hN rfl s0) (op_fn (vs := [(ptr p 0)]) ok52 ⟨(ev_hit hN rfl), trivial⟩ (Ret.flip (sizeLI hx op)) ?_))))
 rintro _ _ ⟨rfl, rfl⟩
 refine op_leq (ev_hit hN rfl) rfl (fun c10 => ?_) (fun c10 => ?_)
 ·
  exfalso; omega
 ·
  refine reg_nil ?_
  refine hK7 _ _ (wp_cond_false (ev_hit hN rfl) (wp_skip (hK5 _ _ (seq_any fun K11 hK11 => one_reg (op_build (pv := []) (v := (Value.agg #[(Value.slice none 0 0), (Value.slice none 0 0), (Value.slice none 0 0)])) trivial (by kernel_rfl) ?_)))))
  refine op_box (cs := [(Value.slice none 0 0), (Value.slice none 0 0), (Value.slice none 0 0)]) (ev_hit hN rfl) rfl ?_
  intro w12 b13 lo_b13 hi_b13 hB15 E14
  have z_w12 := E14.size
  have hx := hx.keep0 E14
  have op := op.keep0 E14
  have ks := all9 ks fun _ h => h.keep0 E14
  have hb := hb.step0 E14
  refine op_assign (ev_hit hN rfl) ?_
  refine reg_nil (hK11 _ _ (seq_any fun K16 hK16 => seq_any fun K17 hK17 => one_reg (op_move (ev_base hN rfl s0) (op_fn (vs := [(ptr p 0)]) ok81 ⟨(ev_hit hN rfl), trivial⟩ (Ret.flip (leafLI hx op)) ?_))))
  rintro _ _ ⟨rfl, rfl⟩
  refine reg_nil (hK17 _ _ (wp_cond_true (ev_hit hN rfl) ?_))
  refine seq_any fun K18 hK18 => one_reg (op_move (ev_base hN rfl s0) (op_nil (ev_hit hN rfl) (op_field fld115_0 (ev_hit hN rfl) (op_load1 (v := pv) one48 (ev_hit hN rfl) (hx.cell rfl) (op_len_rd Try.underlying48 (ev_hit hN rfl) op.rdw ?_)))))
  refine op_sub (r := ((D.length - 3 : Nat) : Int)) (ev_hit hN rfl) rfl ((sub64 (by omega)).trans (by omega)) ?_
  refine op_assign (ev_hit hN rfl) (reg_nil (hK18 _ _ (seq_any fun K19 hK19 => one_reg ?_)))
  refine op_move (ev_hit hN rfl) (op_move (ev_base hN rfl s0) (op_nil (ev_hit hN rfl) (op_field fld115_0 (ev_hit hN rfl) (op_load1 (v := pv) one48 (ev_hit hN rfl) (hx.cell rfl) (op_move (ev_hit hN rfl) (op_slice_cutS (k := (D.length - 3)) slt48 (ev_hit hN rfl) op (ev_hit hN rfl) (by omega) (by omega) ?_))))))
  refine op_fn (vs := [(cutS 2 pv (D.length - 3))]) ok89 ⟨(ev_hit hN rfl), trivial⟩ (clPI (RdC.mono (((op.cutO (k := (D.length - 3)) (by omega)).rdw).cast (by simp) (flat_drop cI_len _ _)) (Nat.zero_le _) (Nat.le_refl _)) (by simp; omega) (one_pI ks (fun _ h => List.mem_of_mem_drop h))) ?_
  rintro v20 w21 ⟨E22, hO20⟩
  have E22 := grown_of_below E22
  have z_w21 := E22.size
  have hx := hx.keep0 E22
  have op := op.keep0 E22
  have hB15 := hB15.keep0 E22
  have hb := hb.step0 E22
  have hO20 := hO20.mono (base' := w.heap.size) (by omega)
  skip
  refine op_nil (ev_hit hN rfl) (op_field fld115_0 (ev_hit hN rfl) ?_)
  have hB15_old := hB15
  refine op_store (vs := [v20]) (cs' := [v20, (Value.slice none 0 0), (Value.slice none 0 0)]) size48 (ev_hit hN rfl) (ev_hit hN rfl) hO20.cl rfl (by simp only [List.all_cons, List.all_nil, Bool.true_and, Bool.and_true, hO20.one]; try rfl) hB15 (Nat.le_of_ble_eq_true rfl) rfl ?_
  intro w23 hB15 E24
  have z_w23 := E24.size
  have hx := hx.keep E24 (by simp; omega)
  have op := op.keepX hB15_old E24 (by decide)
  have hO20 := hO20.keepX hB15_old E24 (by decide)
  have hb := hb.step1 E24 (by omega)
  refine reg_nil (hK19 _ _ (seq_any fun K25 hK25 => one_reg ?_))
  refine op_move (ev_base hN rfl s0) (op_move (ev_base hN rfl s0) (op_nil (ev_hit hN rfl) (op_field fld115_0 (ev_hit hN rfl) (op_load1 (v := pv) one48 (ev_hit hN rfl) (hx.cell rfl) (op_move (ev_hit hN rfl) (op_slice_hiC (m := (D.length - 3)) slt48 (ev_hit hN rfl) hcp3 (ev_hit hN rfl) (by omega) (by omega) ?_))))))
  refine op_nil (ev_hit hN rfl) (op_field fld115_0 (ev_hit hN rfl) ?_)
  have hx_old := hx
  refine op_store (vs := [(hiV pv (D.length - 3))]) (cs' := [(hiV pv (D.length - 3)), (Value.slice none 0 0), (Value.slice none 0 0)]) size48 (ev_hit hN rfl) (ev_hit hN rfl) (own_cl (op.hiCut (k := (D.length - 3)) (by omega))) rfl (by simp only [List.all_cons, List.all_nil, Bool.true_and, Bool.and_true, (own_one (op.hiCut (k := (D.length - 3)) (by omega)))]; try rfl) hx (Nat.le_of_ble_eq_true rfl) rfl ?_
  intro w26 hx E28
  have z_w26 := E28.size
  have op := op.keepX hx_old E28 (by decide)
  have hO20 := hO20.keepX hx_old E28 (by decide)
  have hB15 := hB15.keep E28 (by simp; omega)
  have hb := hb.stepB E28 rfl
  refine reg_nil (hK25 _ _ ?_)
  refine seq_any fun K29 hK29 => one_reg (op_move (ev_hit hN rfl) (op_nil (ev_hit hN rfl) (op_field fld115_0 (ev_hit hN rfl) (op_load1 (v := v20) one48 (ev_hit hN rfl) (hB15.cell rfl) (op_index_rd slt48 (ev_hit hN rfl) hO20.rdw rfl (by omega) (by first | omega | (simp only [List.length_drop, List.length_take]; omega)) ?_)))))
  intro b30 o31 h0b30 h1b30 hc32
  refine op_field fld51_0 (ev_hit hN rfl) ?_
  refine op_load1 (v := ((D.drop (D.length - 3)).getD 0 default).1) one27 (ev_hit hN rfl) (hc32 0 (((D.drop (D.length - 3)).getD 0 default).1) (by decide) ((el_pI (i := 0) (by omega) (by first | omega | (simp only [List.length_drop, List.length_take]; omega))) 0 (((D.drop (D.length - 3)).getD 0 default).1) rfl)) (op_move (ev_hit hN rfl) (op_assign (ev_hit hN rfl) (op_assign (ev_hit hN rfl) (reg_nil (hK29 _ _ (wp_ret (then_ret ( ?_))))))))
  refine ret2 rfl hd (ev_hit hN rfl) (ev_hit hN rfl) ⟨_, rfl, ?_⟩
  exact ⟨hb, b13, v20, rfl, hx, (op.hiCut (k := (D.length - 3)) (by omega)).cast (by simp) (flat_take cI_len _ _), by omega, hB15, hO20⟩

theorem halvesNbI {p : Nat} {kv cv : Value} {K : List DK} {P : List Nat} {w : World} (hx : Bx w p 115 [.slice none 0 0, kv, cv]) (ok : Own w 0 27 1 kv K.length (K.flatMap cK)) (oc : Own w 0 69 1 cv P.length (P.flatMap cN)) (ks : ∀ x9 ∈ K, Own w 0 5 1 x9.1 x9.2.length (x9.2.map u8v)) (hP : P.length = K.length + 1) (h6 : 6 < K.length) (hn : K.length ≤ 900) : Ret Try.prog 86 #[(ptr p 0)] w (fun v' w' => Gr w w' (fun y => y = p) ∧ ∃ q qk qc, v' = .tuple #[(K.getD (K.length / 2) default).1, ptr q 0] ∧ Bx w' p 115 [.slice none 0 0, hiV kv (K.length / 2), hiV cv ((K.length / 2) + 1)] ∧ Own w' 0 27 1 (hiV kv (K.length / 2)) (K.take (K.length / 2)).length ((K.take (K.length / 2)).flatMap cK) ∧ Own w' 0 69 1 (hiV cv ((K.length / 2) + 1)) (P.take ((K.length / 2) + 1)).length ((P.take ((K.length / 2) + 1)).flatMap cN) ∧ w.heap.size ≤ q ∧ Bx w' q 115 [.slice none 0 0, qk, qc] ∧ Own w' w.heap.size 27 1 qk (K.drop ((K.length / 2) + 1)).length ((K.drop ((K.length / 2) + 1)).flatMap cK) ∧ Own w' w.heap.size 69 1 qc (P.drop ((K.length / 2) + 1)).length ((P.drop ((K.length / 2) + 1)).flatMap cN)) := by
 have hi_p := hx.lt
 obtain ⟨ck, hck1, hck2, hck3⟩ := ok.cap
 obtain ⟨cc, hcc1, hcc2, hcc3⟩ := oc.cap
 have hb := Gr.refl w (fun y => y = p)
 refine enter (N := 104) Try.func86 rfl rfl (by simp) fun a0 hN hd hA => ?_
 have s0 : a0.tmps.getD 0 undef = (ptr p 0) := hA 0 (by simp)
 clear hA
 refine seq_any fun K5 hK5 => one_reg (op_assign rfl (op_assign rfl ?_))
 refine reg_nil (hK5 _ _ (seq_any fun K11 hK11 => seq_any fun K12 hK12 => one_reg (op_move (ev_base hN rfl s0) (op_fn (vs := [(ptr p 0)]) ok52 ⟨(ev_hit hN rfl), trivial⟩ (Ret.flip (sizeNI hx ok oc (by omega) (by omega))) ?_))))
 rintro _ _ ⟨rfl, rfl⟩
 refine op_leq (ev_hit hN rfl) rfl (fun c10 => ?_) (fun c10 => ?_)
 ·
  exfalso; omega
 ·
  refine reg_nil ?_
  refine hK12 _ _ (wp_cond_false (ev_hit hN rfl) (wp_skip (hK11 _ _ (seq_any fun K13 hK13 => one_reg (op_build (pv := []) (v := (Value.agg #[(Value.slice none 0 0), (Value.slice none 0 0), (Value.slice none 0 0)])) trivial (by kernel_rfl) ?_)))))
  refine op_box (cs := [(Value.slice none 0 0), (Value.slice none 0 0), (Value.slice none 0 0)]) (ev_hit hN rfl) rfl ?_
  intro w14 b15 lo_b15 hi_b15 hB17 E16
  have z_w14 := E16.size
  have hx := hx.keep0 E16
  have ok := ok.keep0 E16
  have oc := oc.keep0 E16
  have ks := all9 ks fun _ h => h.keep0 E16
  have hb := hb.step0 E16
  refine op_assign (ev_hit hN rfl) ?_
  refine reg_nil (hK13 _ _ (seq_any fun K18 hK18 => seq_any fun K19 hK19 => one_reg (op_move (ev_base hN rfl s0) (op_fn (vs := [(ptr p 0)]) ok81 ⟨(ev_hit hN rfl), trivial⟩ (Ret.flip (leafNI hx ok oc (by omega) (by omega))) ?_))))
  rintro _ _ ⟨rfl, rfl⟩
  refine reg_nil (hK19 _ _ (wp_cond_false (ev_hit hN rfl) (wp_skip (hK18 _ _ ?_))))
  refine seq_any fun K20 hK20 => one_reg (op_move (ev_base hN rfl s0) (op_nil (ev_hit hN rfl) (op_field fld115_1 (ev_hit hN rfl) (op_load1 (v := kv) one90 (ev_hit hN rfl) (hx.cell rfl) (op_len_rd Try.underlying90 (ev_hit hN rfl) ok.rdw ?_)))))
  refine op_quo (r := ((K.length / 2 : Nat) : Int)) (ev_hit hN rfl) rfl (by decide) (by rw [IntKind.wrap_i64, Int.tdiv_eq_ediv_of_nonneg (by omega)]; omega) ?_
  refine op_assign (ev_hit hN rfl) (reg_nil (hK20 _ _ (seq_any fun K21 hK21 => ?_)))
  refine one_reg (op_move (ev_base hN rfl s0) (op_nil (ev_hit hN rfl) (op_field fld115_1 (ev_hit hN rfl) (op_load1 (v := kv) one90 (ev_hit hN rfl) (hx.cell rfl) (op_move (ev_hit hN rfl) (op_index_rd slt90 (ev_hit hN rfl) ok.rdw (ev_hit hN rfl) (by omega) (by omega) ?_))))))
  intro b22 o23 h0b22 h1b22 hc24
  refine op_load1 (v := (K.getD (K.length / 2) default).1) one27 (ev_hit hN rfl) (by have := hc24 0 (K.getD (K.length / 2) default).1 (by decide) (el_kd (i := (K.length / 2)) (by omega) (by first | omega | (simp only [List.length_drop, List.length_take]; omega))); simpa using this) (op_assign (ev_hit hN rfl) (reg_nil (hK21 _ _ (seq_any fun K25 hK25 => reg_split (hd := [_, _, _, _, _, _, _, _, _, _, _, _, _, _, _, _, _, _, _, _, _]) (tl := _) 21 mixed (by kernel_rfl) rfl rfl ?_))))
  refine any_env (φ := phiV [(fun uz => uz = (ptr b15 0)), (fun uz => uz = (ptr b15 0)), (fun uz => uz = (ptr p 0)), (fun uz => uz = (ptr p 0)), (fun uz => uz = (ptr p 1)), (fun uz => uz = kv), (fun uz => uz = (Value.int .i64 ((K.length / 2 : Nat) : Int))), (fun uz => uz = (Value.int .i64 (((K.length / 2 : Nat) : Int) + 1))), (fun uz => uz = (cutS 1 kv ((K.length / 2) + 1))), (fun _ => True), (fun uz => uz = (ptr p 0)), (fun uz => uz = (ptr p 0)), (fun uz => uz = (ptr p 2)), (fun uz => uz = cv), (fun uz => uz = (Value.int .i64 ((K.length / 2 : Nat) : Int))), (fun uz => uz = (Value.int .i64 (((K.length / 2 : Nat) : Int) + 1))), (fun uz => uz = (cutS 1 cv ((K.length / 2) + 1))), (fun _ => True), (fun uz => uz = (ptr b15 0)), (fun uz => uz = (ptr b15 1)), (fun _ => True)]) (G := fun w' => Bx w' p 115 [(Value.slice none 0 0), kv, cv]) [9, 17, 20] (by kernel_rfl) (by kernel_rfl) (by kernel_rfl) (by kernel_rfl) hN (fun w1 w2 E h => h.keep0 E) hx (ObEs.cons ?_ (ObEs.cons ?_ (ObEs.cons ?_ (ObEs.cons ?_ (ObEs.cons ?_ (ObEs.cons ?_ (ObEs.cons ?_ (ObEs.cons ?_ (ObEs.cons ?_ (ObEs.pass rfl (ObEs.cons ?_ (ObEs.cons ?_ (ObEs.cons ?_ (ObEs.cons ?_ (ObEs.cons ?_ (ObEs.cons ?_ (ObEs.cons ?_ (ObEs.pass rfl (ObEs.cons ?_ (ObEs.cons ?_ (ObEs.pass rfl (ObEs.nil)))))))))))))))))))))) (by simp only [putsL_defers]) ?_
  ·
   intro eA aA wA hNA hGA hbsA hdpA
   have qA_4 := (hbsA 4 rfl).trans (sl_hit hN rfl)
   refine op_move (ev_base hNA rfl qA_4) ?_
   exact obE_end rfl rfl rfl
  ·
   intro eA aA wA hNA hGA hbsA hdpA
   have qA_4 := (hbsA 4 rfl).trans (sl_hit hN rfl)
   refine op_move (ev_base hNA rfl qA_4) ?_
   exact obE_end rfl rfl rfl
  ·
   intro eA aA wA hNA hGA hbsA hdpA
   have qA_0 := (hbsA 0 rfl).trans (sl_base hN rfl s0)
   refine op_move (ev_base hNA rfl qA_0) ?_
   exact obE_end rfl rfl rfl
  ·
   intro eA aA wA hNA hGA hbsA hdpA
   have qA_63 : Sl aA 63 (ptr p 0) := (hdpA 2 _ 63 (by kernel_rfl) rfl rfl).2 rfl
   refine op_nil (ev_base hNA rfl qA_63) ?_
   exact obE_end rfl rfl rfl
  ·
   intro eA aA wA hNA hGA hbsA hdpA
   have qA_64 : Sl aA 64 (ptr p 0) := (hdpA 3 _ 64 (by kernel_rfl) rfl rfl).2 rfl
   refine op_field fld115_1 (ev_base hNA rfl qA_64) ?_
   exact obE_end rfl rfl rfl
  ·
   intro eA aA wA hNA hGA hbsA hdpA
   have qA_65 : Sl aA 65 (ptr p 1) := (hdpA 4 _ 65 (by kernel_rfl) rfl rfl).2 rfl
   refine op_load1 (v := kv) one90 (ev_base hNA rfl qA_65) (hGA.cell rfl) ?_
   exact obE_end rfl rfl rfl
  ·
   intro eA aA wA hNA hGA hbsA hdpA
   have qA_6 := (hbsA 6 rfl).trans (sl_hit hN rfl)
   refine op_move (ev_base hNA rfl qA_6) ?_
   exact obE_end rfl rfl rfl
  ·
   intro eA aA wA hNA hGA hbsA hdpA
   have qA_67 : Sl aA 67 (Value.int .i64 ((K.length / 2 : Nat) : Int)) := (hdpA 6 _ 67 (by kernel_rfl) rfl rfl).2 rfl
   refine op_add (ev_base hNA rfl qA_67) rfl (add64 (by omega)) ?_
   exact obE_end rfl rfl rfl
  ·
   intro eA aA wA hNA hGA hbsA hdpA
   have qA_66 : Sl aA 66 kv := (hdpA 5 _ 66 (by kernel_rfl) rfl rfl).2 rfl
   have qA_68 : Sl aA 68 (Value.int .i64 (((K.length / 2 : Nat) : Int) + 1)) := (hdpA 7 _ 68 (by kernel_rfl) rfl rfl).2 rfl
   refine op_slice_cutS (k := (K.length / 2) + 1) slt90 (ev_base hNA rfl qA_66) ok (ev_base hNA rfl qA_68) (by omega) (by omega) ?_
   exact obE_end rfl rfl rfl
  ·
   intro eA aA wA hNA hGA hbsA hdpA
   have qA_0 := (hbsA 0 rfl).trans (sl_base hN rfl s0)
   refine op_move (ev_base hNA rfl qA_0) ?_
   exact obE_end rfl rfl rfl
  ·
   intro eA aA wA hNA hGA hbsA hdpA
   have qA_71 : Sl aA 71 (ptr p 0) := (hdpA 10 _ 71 (by kernel_rfl) rfl rfl).2 rfl
   refine op_nil (ev_base hNA rfl qA_71) ?_
   exact obE_end rfl rfl rfl
  ·
   intro eA aA wA hNA hGA hbsA hdpA
   have qA_72 : Sl aA 72 (ptr p 0) := (hdpA 11 _ 72 (by kernel_rfl) rfl rfl).2 rfl
   refine op_field fld115_2 (ev_base hNA rfl qA_72) ?_
   exact obE_end rfl rfl rfl
  ·
   intro eA aA wA hNA hGA hbsA hdpA
   have qA_73 : Sl aA 73 (ptr p 2) := (hdpA 12 _ 73 (by kernel_rfl) rfl rfl).2 rfl
   refine op_load1 (v := cv) one113 (ev_base hNA rfl qA_73) (hGA.cell rfl) ?_
   exact obE_end rfl rfl rfl
  ·
   intro eA aA wA hNA hGA hbsA hdpA
   have qA_6 := (hbsA 6 rfl).trans (sl_hit hN rfl)
   refine op_move (ev_base hNA rfl qA_6) ?_
   exact obE_end rfl rfl rfl
  ·
   intro eA aA wA hNA hGA hbsA hdpA
   have qA_75 : Sl aA 75 (Value.int .i64 ((K.length / 2 : Nat) : Int)) := (hdpA 14 _ 75 (by kernel_rfl) rfl rfl).2 rfl
   refine op_add (ev_base hNA rfl qA_75) rfl (add64 (by omega)) ?_
   exact obE_end rfl rfl rfl
  ·
   intro eA aA wA hNA hGA hbsA hdpA
   have qA_74 : Sl aA 74 cv := (hdpA 13 _ 74 (by kernel_rfl) rfl rfl).2 rfl
   have qA_76 : Sl aA 76 (Value.int .i64 (((K.length / 2 : Nat) : Int) + 1)) := (hdpA 15 _ 76 (by kernel_rfl) rfl rfl).2 rfl
   refine op_slice_cutS (k := (K.length / 2) + 1) slt113 (ev_base hNA rfl qA_74) oc (ev_base hNA rfl qA_76) (by omega) (by omega) ?_
   exact obE_end rfl rfl rfl
  ·
   intro eA aA wA hNA hGA hbsA hdpA
   have qA_61 : Sl aA 61 (ptr b15 0) := (hdpA 0 _ 61 (by kernel_rfl) rfl rfl).2 rfl
   refine op_nil (ev_base hNA rfl qA_61) ?_
   exact obE_end rfl rfl rfl
  ·
   intro eA aA wA hNA hGA hbsA hdpA
   have qA_79 : Sl aA 79 (ptr b15 0) := (hdpA 18 _ 79 (by kernel_rfl) rfl rfl).2 rfl
   refine op_field fld115_1 (ev_base hNA rfl qA_79) ?_
   exact obE_end rfl rfl rfl
  ·
   intro w26 E26 _ a26 hN26 hbs26 hdp26 o_ ho_; obtain rfl := Option.some.inj ho_
   have z_w26 := E26.size
   have hx := hx.keep0 E26
   have ok := ok.keep0 E26
   have oc := oc.keep0 E26
   have ks := all9 ks fun _ h => h.keep0 E26
   have hB17 := hB17.keep0 E26
   have hb := hb.step0 E26
   have q26_69 : Sl a26 69 (cutS 1 kv ((K.length / 2) + 1)) := (hdp26 8 _ 69 (by kernel_rfl) rfl rfl).2 rfl
   refine op_fn (vs := [(cutS 1 kv ((K.length / 2) + 1))]) ok90 ⟨(ev_base hN26 rfl q26_69), trivial⟩ (clK (RdC.mono (((ok.cutO (k := (K.length / 2) + 1) (by omega)).rdw).cast (by simp) (flat_drop cK_len _ _)) (Nat.zero_le _) (Nat.le_refl _)) (by simp; omega) (one_kd ks (fun _ h => List.mem_of_mem_drop h))) ?_
   rintro v28 w29 ⟨E30, hO28⟩
   have E30 := grown_of_below E30
   have z_w29 := E30.size
   have hx := hx.keep0 E30
   have ok := ok.keep0 E30
   have oc := oc.keep0 E30
   have hB17 := hB17.keep0 E30
   have hb := hb.step0 E30
   have hO28 := hO28.mono (base' := w.heap.size) (by omega)
   skip
   refine ke_end rfl (by decide) rfl hx ?_
   intro w31 E31 _ a31 hN31 hbs31 hdp31 o_ ho_; obtain rfl := Option.some.inj ho_
   have z_w31 := E31.size
   have hx := hx.keep0 E31
   have ok := ok.keep0 E31
   have oc := oc.keep0 E31
   have hB17 := hB17.keep0 E31
   have hO28 := hO28.keep0 E31
   have hb := hb.step0 E31
   have q31_77 : Sl a31 77 (cutS 1 cv ((K.length / 2) + 1)) := (hdp31 16 _ 77 (by kernel_rfl) rfl rfl).2 rfl
   refine op_fn (vs := [(cutS 1 cv ((K.length / 2) + 1))]) ok119 ⟨(ev_base hN31 rfl q31_77), trivial⟩ (clNI (RdC.mono (((oc.cutO (k := (K.length / 2) + 1) (by omega)).rdw).cast (by simp) (flat_drop cN_len _ _)) (Nat.zero_le _) (Nat.le_refl _)) (by simp; omega)) ?_
   rintro v32 w33 ⟨E34, hO32⟩
   have E34 := grown_of_below E34
   have z_w33 := E34.size
   have hx := hx.keep0 E34
   have ok := ok.keep0 E34
   have oc := oc.keep0 E34
   have hB17 := hB17.keep0 E34
   have hO28 := hO28.keep0 E34
   have hb := hb.step0 E34
   have hO32 := hO32.mono (base' := w.heap.size) (by omega)
   skip
   refine ke_end rfl (by decide) rfl hx ?_
   intro w35 E35 _ a35 hN35 hbs35 hdp35 o_ ho_; obtain rfl := Option.some.inj ho_
   have z_w35 := E35.size
   have hx := hx.keep0 E35
   have ok := ok.keep0 E35
   have oc := oc.keep0 E35
   have hB17 := hB17.keep0 E35
   have hO28 := hO28.keep0 E35
   have hO32 := hO32.keep0 E35
   have hb := hb.step0 E35
   have q35_80 : Sl a35 80 (ptr b15 1) := (hdp35 19 _ 80 (by kernel_rfl) rfl rfl).2 rfl
   have q35_70 : Sl a35 70 v28 := (Option.some.inj ((hdp35 9 _ 70 (by kernel_rfl) rfl rfl).1 0 rfl)).symm
   have hB17_old := hB17
   refine op_store (vs := [v28]) (cs' := [(Value.slice none 0 0), v28, (Value.slice none 0 0)]) size90 (ev_base hN35 rfl q35_80) (ev_base hN35 rfl q35_70) hO28.cl rfl (by simp only [List.all_cons, List.all_nil, Bool.true_and, Bool.and_true, hO28.one]; try rfl) hB17 (Nat.le_of_ble_eq_true rfl) rfl ?_
   intro w36 hB17 E37
   have z_w36 := E37.size
   have hx := hx.keep E37 (by simp; omega)
   have ok := ok.keepX hB17_old E37 (by decide)
   have oc := oc.keepX hB17_old E37 (by decide)
   have hO28 := hO28.keepX hB17_old E37 (by decide)
   have hO32 := hO32.keepX hB17_old E37 (by decide)
   have hb := hb.step1 E37 (by omega)
   refine ke_end0 rfl hx ?_
   intro w38 E38 a38 hN38 hd38 hbs38 hph38
   have hd38 := hd38.trans ((by simp only [putsL_defers] : _ = _).trans hd)
   have z_w38 := E38.size
   have hx := hx.keep0 E38
   have ok := ok.keep0 E38
   have oc := oc.keep0 E38
   have hO28 := hO28.keep0 E38
   have hO32 := hO32.keep0 E38
   have hB17 := hB17.keep0 E38
   have hb := hb.step0 E38
   have s38_0 := (hbs38 0 rfl).trans (sl_base hN rfl s0)
   have s38_4 := (hbs38 4 rfl).trans (sl_hit hN rfl)
   have s38_6 := (hbs38 6 rfl).trans (sl_hit hN rfl)
   have s38_7 := (hbs38 7 rfl).trans (sl_hit hN rfl)
   have s38_62 : Sl a38 62 (ptr b15 0) := (hph38 1 _ 62 rfl rfl).2 rfl
   have s38_78 : Sl a38 78 v32 := (Option.some.inj ((hph38 17 _ 78 rfl rfl).1 1 rfl)).symm
   refine split_end ?_
   refine from_seq (tl := [_, _, _]) (by decide) (by kernel_rfl) rfl ?_
   refine op_nil (ev_base hN38 rfl s38_62) (op_field fld115_2 (ev_hit hN38 rfl) ?_)
   have hB17_old := hB17
   refine op_store (vs := [v32]) (cs' := [(Value.slice none 0 0), v28, v32]) size113 (ev_hit hN38 rfl) (ev_base hN38 rfl s38_78) hO32.cl rfl (by simp only [List.all_cons, List.all_nil, Bool.true_and, Bool.and_true, hO32.one]; try rfl) hB17 (Nat.le_of_ble_eq_true rfl) rfl ?_
   intro w39 hB17 E40
   have z_w39 := E40.size
   have hx := hx.keep E40 (by simp; omega)
   have ok := ok.keepX hB17_old E40 (by decide)
   have oc := oc.keepX hB17_old E40 (by decide)
   have hO28 := hO28.keepX hB17_old E40 (by decide)
   have hO32 := hO32.keepX hB17_old E40 (by decide)
   have hb := hb.step1 E40 (by omega)
   refine reg_nil (hK25 _ _ (seq_any fun K41 hK41 => reg_split (hd := [_, _, _, _, _, _, _, _, _, _, _, _, _, _, _, _, _, _]) (tl := _) 18 mixed (by kernel_rfl) rfl rfl ?_))
   refine any_envk (φ := phiV [(fun uz => uz = (ptr p 0)), (fun uz => uz = (ptr p 0)), (fun uz => uz = (ptr p 0)), (fun uz => uz = (ptr p 0)), (fun uz => uz = (ptr p 1)), (fun uz => uz = kv), (fun uz => uz = (Value.int .i64 ((K.length / 2 : Nat) : Int))), (fun uz => uz = (hiV kv (K.length / 2))), (fun uz => uz = (ptr p 0)), (fun uz => uz = (ptr p 0)), (fun uz => uz = (ptr p 2)), (fun uz => uz = cv), (fun uz => uz = (Value.int .i64 ((K.length / 2 : Nat) : Int))), (fun uz => uz = (Value.int .i64 (((K.length / 2 : Nat) : Int) + 1))), (fun uz => uz = (hiV cv ((K.length / 2) + 1))), (fun uz => uz = (ptr p 0)), (fun uz => uz = (ptr p 1)), (fun _ => True)]) (G := fun c9 w' => c9 ≤ 0 → (Bx w' p 115 [(Value.slice none 0 0), kv, cv])) [17] (by kernel_rfl) (by kernel_rfl) (by kernel_rfl) (by kernel_rfl) hN38 (fun _ w1 w2 E h hc9 => (h hc9).keep0 E) (fun _ => hx) (ObKs.cons ?_ (ObKs.cons ?_ (ObKs.cons ?_ (ObKs.cons ?_ (ObKs.cons ?_ (ObKs.cons ?_ (ObKs.cons ?_ (ObKs.cons ?_ (ObKs.cons ?_ (ObKs.cons ?_ (ObKs.cons ?_ (ObKs.cons ?_ (ObKs.cons ?_ (ObKs.cons ?_ (ObKs.cons ?_ (ObKs.cons ?_ (ObKs.cons ?_ (ObKs.pass rfl (ObKs.nil))))))))))))))))))) (by simp only [putsL_defers]) ?_
   ·
    intro eA aA wA hNA hckA hGA hbsA hdpA
    have qA_0 := (hbsA 0 rfl).trans (sl_base hN38 rfl s38_0)
    refine op_move (ev_base hNA rfl qA_0) ?_
    exact obK_end rfl rfl rfl
   ·
    intro eA aA wA hNA hckA hGA hbsA hdpA
    have qA_0 := (hbsA 0 rfl).trans (sl_base hN38 rfl s38_0)
    refine op_move (ev_base hNA rfl qA_0) ?_
    exact obK_end rfl rfl rfl
   ·
    intro eA aA wA hNA hckA hGA hbsA hdpA
    have qA_0 := (hbsA 0 rfl).trans (sl_base hN38 rfl s38_0)
    refine op_move (ev_base hNA rfl qA_0) ?_
    exact obK_end rfl rfl rfl
   ·
    intro eA aA wA hNA hckA hGA hbsA hdpA
    have qA_85 : Sl aA 85 (ptr p 0) := (hdpA 2 _ 85 (by kernel_rfl) rfl rfl).2 rfl
    refine op_nil (ev_base hNA rfl qA_85) ?_
    exact obK_end rfl rfl rfl
   ·
    intro eA aA wA hNA hckA hGA hbsA hdpA
    have qA_86 : Sl aA 86 (ptr p 0) := (hdpA 3 _ 86 (by kernel_rfl) rfl rfl).2 rfl
    refine op_field fld115_1 (ev_base hNA rfl qA_86) ?_
    exact obK_end rfl rfl rfl
   ·
    intro eA aA wA hNA hckA hGA hbsA hdpA
    have qA_87 : Sl aA 87 (ptr p 1) := (hdpA 4 _ 87 (by kernel_rfl) rfl rfl).2 rfl
    have hGA := hGA (hckA 0 17 rfl (by kernel_rfl))
    refine op_load1 (v := kv) one90 (ev_base hNA rfl qA_87) (hGA.cell rfl) ?_
    exact obK_end rfl rfl rfl
   ·
    intro eA aA wA hNA hckA hGA hbsA hdpA
    have qA_6 := (hbsA 6 rfl).trans (sl_base hN38 rfl s38_6)
    refine op_move (ev_base hNA rfl qA_6) ?_
    exact obK_end rfl rfl rfl
   ·
    intro eA aA wA hNA hckA hGA hbsA hdpA
    have qA_88 : Sl aA 88 kv := (hdpA 5 _ 88 (by kernel_rfl) rfl rfl).2 rfl
    have qA_89 : Sl aA 89 (Value.int .i64 ((K.length / 2 : Nat) : Int)) := (hdpA 6 _ 89 (by kernel_rfl) rfl rfl).2 rfl
    refine op_slice_hiC (m := (K.length / 2)) slt90 (ev_base hNA rfl qA_88) hck3 (ev_base hNA rfl qA_89) (by omega) (by omega) ?_
    exact obK_end rfl rfl rfl
   ·
    intro eA aA wA hNA hckA hGA hbsA hdpA
    have qA_0 := (hbsA 0 rfl).trans (sl_base hN38 rfl s38_0)
    refine op_move (ev_base hNA rfl qA_0) ?_
    exact obK_end rfl rfl rfl
   ·
    intro eA aA wA hNA hckA hGA hbsA hdpA
    have qA_91 : Sl aA 91 (ptr p 0) := (hdpA 8 _ 91 (by kernel_rfl) rfl rfl).2 rfl
    refine op_nil (ev_base hNA rfl qA_91) ?_
    exact obK_end rfl rfl rfl
   ·
    intro eA aA wA hNA hckA hGA hbsA hdpA
    have qA_92 : Sl aA 92 (ptr p 0) := (hdpA 9 _ 92 (by kernel_rfl) rfl rfl).2 rfl
    refine op_field fld115_2 (ev_base hNA rfl qA_92) ?_
    exact obK_end rfl rfl rfl
   ·
    intro eA aA wA hNA hckA hGA hbsA hdpA
    have qA_93 : Sl aA 93 (ptr p 2) := (hdpA 10 _ 93 (by kernel_rfl) rfl rfl).2 rfl
    have hGA := hGA (hckA 0 17 rfl (by kernel_rfl))
    refine op_load1 (v := cv) one113 (ev_base hNA rfl qA_93) (hGA.cell rfl) ?_
    exact obK_end rfl rfl rfl
   ·
    intro eA aA wA hNA hckA hGA hbsA hdpA
    have qA_6 := (hbsA 6 rfl).trans (sl_base hN38 rfl s38_6)
    refine op_move (ev_base hNA rfl qA_6) ?_
    exact obK_end rfl rfl rfl
   ·
    intro eA aA wA hNA hckA hGA hbsA hdpA
    have qA_95 : Sl aA 95 (Value.int .i64 ((K.length / 2 : Nat) : Int)) := (hdpA 12 _ 95 (by kernel_rfl) rfl rfl).2 rfl
    refine op_add (ev_base hNA rfl qA_95) rfl (add64 (by omega)) ?_
    exact obK_end rfl rfl rfl
   ·
    intro eA aA wA hNA hckA hGA hbsA hdpA
    have qA_94 : Sl aA 94 cv := (hdpA 11 _ 94 (by kernel_rfl) rfl rfl).2 rfl
    have qA_96 : Sl aA 96 (Value.int .i64 (((K.length / 2 : Nat) : Int) + 1)) := (hdpA 13 _ 96 (by kernel_rfl) rfl rfl).2 rfl
    refine op_slice_hiC (m := (K.length / 2) + 1) slt113 (ev_base hNA rfl qA_94) hcc3 (ev_base hNA rfl qA_96) (by omega) (by omega) ?_
    exact obK_end rfl rfl rfl
   ·
    intro eA aA wA hNA hckA hGA hbsA hdpA
    have qA_83 : Sl aA 83 (ptr p 0) := (hdpA 0 _ 83 (by kernel_rfl) rfl rfl).2 rfl
    refine op_nil (ev_base hNA rfl qA_83) ?_
    exact obK_end rfl rfl rfl
   ·
    intro eA aA wA hNA hckA hGA hbsA hdpA
    have qA_98 : Sl aA 98 (ptr p 0) := (hdpA 15 _ 98 (by kernel_rfl) rfl rfl).2 rfl
    refine op_field fld115_1 (ev_base hNA rfl qA_98) ?_
    exact obK_end rfl rfl rfl
   ·
    intro w42 E42 _ a42 hN42 hbs42 hdp42 o_ ho_; obtain rfl := Option.some.inj ho_
    have z_w42 := E42.size
    have hx := hx.keep0 E42
    have ok := ok.keep0 E42
    have oc := oc.keep0 E42
    have hO28 := hO28.keep0 E42
    have hO32 := hO32.keep0 E42
    have hB17 := hB17.keep0 E42
    have hb := hb.step0 E42
    have q42_99 : Sl a42 99 (ptr p 1) := (hdp42 16 _ 99 (by kernel_rfl) rfl rfl).2 rfl
    have q42_90 : Sl a42 90 (hiV kv (K.length / 2)) := (hdp42 7 _ 90 (by kernel_rfl) rfl rfl).2 rfl
    have hx_old := hx
    refine op_store (vs := [(hiV kv (K.length / 2))]) (cs' := [(Value.slice none 0 0), (hiV kv (K.length / 2)), cv]) size90 (ev_base hN42 rfl q42_99) (ev_base hN42 rfl q42_90) (own_cl (ok.hiCut (k := (K.length / 2)) (by omega))) rfl (by simp only [List.all_cons, List.all_nil, Bool.true_and, Bool.and_true, (own_one (ok.hiCut (k := (K.length / 2)) (by omega)))]; try rfl) hx (Nat.le_of_ble_eq_true rfl) rfl ?_
    intro w43 hx E44
    have z_w43 := E44.size
    have ok := ok.keepX hx_old E44 (by decide)
    have oc := oc.keepX hx_old E44 (by decide)
    have hO28 := hO28.keepX hx_old E44 (by decide)
    have hO32 := hO32.keepX hx_old E44 (by decide)
    have hB17 := hB17.keep E44 (by simp; omega)
    have hb := hb.stepB E44 rfl
    refine kk_end0 rfl (fun h => absurd h (by simp)) ?_
    intro w45 E45 a45 hN45 hd45 hbs45 hph45
    have hd45 := hd45.trans ((by simp only [putsL_defers] : _ = _).trans hd38)
    have z_w45 := E45.size
    have ok := ok.keep0 E45
    have oc := oc.keep0 E45
    have hO28 := hO28.keep0 E45
    have hO32 := hO32.keep0 E45
    have hB17 := hB17.keep0 E45
    have hx := hx.keep0 E45
    have hb := hb.step0 E45
    have s45_4 := (hbs45 4 rfl).trans (sl_base hN38 rfl s38_4)
    have s45_7 := (hbs45 7 rfl).trans (sl_base hN38 rfl s38_7)
    have s45_84 : Sl a45 84 (ptr p 0) := (hph45 1 _ 84 rfl rfl).2 rfl
    have s45_97 : Sl a45 97 (hiV cv ((K.length / 2) + 1)) := (hph45 14 _ 97 rfl rfl).2 rfl
    refine split_end ?_
    refine from_seq (tl := [_, _, _]) (by decide) (by kernel_rfl) rfl ?_
    refine op_nil (ev_base hN45 rfl s45_84) (op_field fld115_2 (ev_hit hN45 rfl) ?_)
    have hx_old := hx
    refine op_store (vs := [(hiV cv ((K.length / 2) + 1))]) (cs' := [(Value.slice none 0 0), (hiV kv (K.length / 2)), (hiV cv ((K.length / 2) + 1))]) size113 (ev_hit hN45 rfl) (ev_base hN45 rfl s45_97) (own_cl (oc.hiCut (k := (K.length / 2) + 1) (by omega))) rfl (by simp only [List.all_cons, List.all_nil, Bool.true_and, Bool.and_true, (own_one (oc.hiCut (k := (K.length / 2) + 1) (by omega)))]; try rfl) hx (Nat.le_of_ble_eq_true rfl) rfl ?_
    intro w46 hx E47
    have z_w46 := E47.size
    have ok := ok.keepX hx_old E47 (by decide)
    have oc := oc.keepX hx_old E47 (by decide)
    have hO28 := hO28.keepX hx_old E47 (by decide)
    have hO32 := hO32.keepX hx_old E47 (by decide)
    have hB17 := hB17.keep E47 (by simp; omega)
    have hb := hb.stepB E47 rfl
    refine reg_nil (hK41 _ _ (seq_any fun K48 hK48 => one_reg ?_))
    refine op_move (ev_base hN45 rfl s45_7) (op_move (ev_base hN45 rfl s45_4) (op_assign (ev_hit hN45 rfl) (op_assign (ev_hit hN45 rfl) (reg_nil (hK48 _ _ (wp_ret ?_))))))
    refine ret2 rfl hd45 (ev_hit hN45 rfl) (ev_hit hN45 rfl) ⟨_, rfl, ?_⟩
    exact ⟨hb, b15, v28, v32, rfl, hx, (ok.hiCut (k := (K.length / 2)) (by omega)).cast (by simp; omega) (flat_take cK_len _ _), (oc.hiCut (k := (K.length / 2) + 1) (by omega)).cast (by simp; omega) (flat_take cN_len _ _), by omega, hB17, hO28, hO32⟩

end Go.Proofs.Ytcpfdfejojghbaa

namespace Go.Proofs.Ytcpfdfejojghbaa
open Go.Gx Go.RowKit
attribute [local irreducible] wpList wpStill Code.wp Calls
theorem ovl99 {v : Value} {n i base ub m2 : Nat} {cs xs : List Value} {w : World} (hU : Bx w ub 27 xs) (O : Own w base 27 1 v n cs) (hne : v.ownBlock ≠ some ub) (hn0 : 0 < n) : (callFunc 99 #[.slice (some ⟨ub, 0, none⟩) m2 m2, cutS 1 v i]).run Try.prog w = .ok (.value (.bool false)) w :=
  run_ovl (tR := 4) slt90 Try.func99 (by kernel_rfl) (by kernel_rfl) (by kernel_rfl) (by kernel_rfl) hU O hne hn0
theorem ovl115 {v : Value} {n i base ub m2 : Nat} {cs xs : List Value} {w : World} (hU : Bx w ub 51 xs) (O : Own w base 51 2 v n cs) (hne : v.ownBlock ≠ some ub) (hn0 : 0 < n) : (callFunc 115 #[.slice (some ⟨ub, 0, none⟩) m2 m2, cutS 2 v i]).run Try.prog w = .ok (.value (.bool false)) w :=
  run_ovl (tR := 4) slt48 Try.func115 (by kernel_rfl) (by kernel_rfl) (by kernel_rfl) (by kernel_rfl) hU O hne hn0
theorem ovl117 {v : Value} {n i base ub m2 : Nat} {cs xs : List Value} {w : World} (hU : Bx w ub 69 xs) (O : Own w base 69 1 v n cs) (hne : v.ownBlock ≠ some ub) (hn0 : 0 < n) : (callFunc 117 #[.slice (some ⟨ub, 0, none⟩) m2 m2, cutS 1 v i]).run Try.prog w = .ok (.value (.bool false)) w :=
  run_ovl (tR := 4) slt113 Try.func117 (by kernel_rfl) (by kernel_rfl) (by kernel_rfl) (by kernel_rfl) hU O hne hn0

theorem InsK {n i ub : Nat} {v x0 : Value} {cs : List Value} {w : World} (hO : Own w 0 27 1 v n cs) (hU : Bx w ub 27 [x0]) (h1 : cs.all Value.oneCell' = true) (hx1 : ([x0]).all Value.oneCell' = true) (hi : i ≤ n) (hn : n ≤ 1000) (hne : v.ownBlock ≠ some ub) : Ret Try.prog 67 #[v, (Value.int .i64 ((i : Nat) : Int)), (Value.slice (some ⟨ub, 0, none⟩) 1 1)] w (fun v' w' => w.grownBy w' v.ownBlock ∧ Own w' 0 27 1 v' (n + 1) (cs.take (i * 1) ++ [x0] ++ cs.drop (i * 1)) ∧ (v'.ownBlock = v.ownBlock ∨ ∀ k, v'.ownBlock = some k → w.heap.size ≤ k)) := by
 have h0 : 0 ≤ w.heap.size := Nat.zero_le _
 have hlt := hU.lt
 have hO0 := hO.1
 have hb := grown_refl w v.ownBlock
 refine enter (N := 95) Try.func67 rfl rfl (by simp) fun a0 hN hd hA => ?_
 have s0 : a0.tmps.getD 0 undef = v := hA 0 (by simp)
 have s1 : a0.tmps.getD 1 undef = (Value.int .i64 ((i : Nat) : Int)) := hA 1 (by simp)
 have s2 : a0.tmps.getD 2 undef = (Value.slice (some ⟨ub, 0, none⟩) 1 1) := hA 2 (by simp)
 clear hA
 refine seq_any fun K773 hK773 => one_reg (op_assign rfl ?_)
 refine reg_nil (hK773 _ _ (seq_any fun K774 hK774 => one_reg (op_move (ev_base hN rfl s0) (op_move (ev_base hN rfl s1) (op_slice_cutS (k := i) slt90 (ev_hit hN rfl) hO (ev_hit hN rfl) (by omega) hi ?_)))))
 refine reg_nil (hK774 _ _ (seq_any fun K775 hK775 => one_reg (op_move (ev_base hN rfl s2) (op_len_rd Try.underlying90 (ev_hit hN rfl) (RdC.ofBx (sz := 1) (n := 1) hU rfl (by decide)) ?_))))
 refine op_assign (ev_hit hN rfl) (reg_nil (hK775 _ _ ?_))
 refine seq_any fun K776 hK776 => seq_any fun K777 hK777 => one_reg (op_move (ev_hit hN rfl) (op_bin (v := .bool false) (ev_hit hN rfl) rfl (by rw [binOp_eql]; rfl) (reg_nil (hK777 _ _ ?_))))
 refine wp_cond_false (ev_hit hN rfl) (wp_skip (hK776 _ _ (seq_any fun K778 hK778 => one_reg (op_move (ev_base hN rfl s0) (op_len_rd Try.underlying90 (ev_hit hN rfl) hO.rdw ?_)))))
 refine op_assign (ev_hit hN rfl) (reg_nil (hK778 _ _ (seq_any fun K779 hK779 => seq_any fun K780 hK780 => ?_)))
 refine one_reg (op_move (ev_base hN rfl s1) (op_move (ev_hit hN rfl) (op_eql (ev_hit hN rfl) (ev_hit hN rfl) (fun c22 => ?_) (fun c22 => ?_))))
 ·
  refine reg_nil (hK780 _ _ (wp_cond_true (ev_hit hN rfl) (seq_any fun K781 hK781 => one_reg (op_move (ev_base hN rfl s0) (op_move (ev_base hN rfl s2) ?_)))))
  have hP787 := hO
  refine op_append slt90 (ev_hit hN rfl) hP787 (ev_hit hN rfl) (Src.ofRd Try.underlying90 (by decide) (RdC.ofBx (sz := 1) (n := 1) hU rfl (by decide)) hx1) (by unfold maxLen; omega) (by omega) (Nat.le_trans (by assumption) hb.size) ?_
  intro v782 w783 hO785 E784 hm786
  have z_w783 := E784.size
  have hb := grow_stepX hb E784 rfl
  have hO785 : Own w783 0 27 1 v782 (n + 1) ((cs ++ [x0])) := by simpa [u8v, sv] using hO785
  have ne_ub_v782 : v782.ownBlock ≠ some ub := ne_step (w1 := w) ⟨E784, hm786⟩ (by omega) hne
  refine op_assign (ev_hit hN rfl) (reg_nil (hK781 _ _ (wp_ret (then_ret ( ?_)))))
  refine ret1 rfl hd (ev_hit hN rfl) ⟨_, rfl, ?_⟩
  exact ⟨hb, hO785.cast rfl (by rw [show i = n by omega]; exact (ins_end hO0).symm), hm786⟩
 ·
  refine reg_nil (hK780 _ _ (wp_cond_false (ev_hit hN rfl) (wp_skip ?_)))
  refine hK779 _ _ (seq_any fun K788 hK788 => seq_any fun K789 hK789 => one_reg (op_move (ev_hit hN rfl) (op_move (ev_hit hN rfl) (op_add (ev_hit hN rfl) (ev_hit hN rfl) (add64 (by omega)) ?_))))
  refine op_move (ev_base hN rfl s0) ?_
  obtain ⟨cap790, hcap791_1, hcap791_2, hcap791⟩ := hO.capOf
  have hcap791_3 : cap790 ≤ 9223372036854775807 := hcap791_2
  refine op_cap (c := cap790) Try.underlying90 (by rw [(ev_hit hN rfl)]; exact hcap791) ?_
  refine op_gtr (ev_hit hN rfl) (ev_hit hN rfl) (fun c31 => ?_) (fun c31 => ?_)
  ·
   refine reg_nil ?_
   refine hK789 _ _ (wp_cond_true (ev_hit hN rfl) (seq_any fun K792 hK792 => one_reg (op_move (ev_base hN rfl s0) (op_move (ev_base hN rfl s1) (op_slice_hiC (m := i) slt90 (ev_hit hN rfl) hcap791 (ev_hit hN rfl) rfl (by omega) ?_)))))
   refine op_move (ev_hit hN rfl) (op_move (ev_hit hN rfl) (op_add (ev_hit hN rfl) (ev_hit hN rfl) (add64 (by omega)) ?_))
   refine op_move (ev_base hN rfl s1) (op_sub (r := ((n + 1 - i : Nat) : Int)) (ev_hit hN rfl) (ev_hit hN rfl) ((sub64 (by omega)).trans (by omega)) ?_)
   refine op_append_zeros_grow (i := i) (m := n + 1 - i) slt90 Try.underlying3 (ev_hit hN rfl) hO hcap791 hi (ev_hit hN rfl) rfl (by omega) (by omega) (by omega) (by omega) (Nat.zero_le _) ?_
   intro v793 w794 zs795 hO796 E797 hf798
   have hO796 : Own w794 w.heap.size 27 1 v793 (n + 1) (cs.take (i * 1) ++ zs795) := (hO796.cast (by omega) rfl).rebase hf798
   have hzl : zs795.length = (n - i) * 1 + 1 * 1 := by have q1 := hO796.1; have q2 := hO.1; rw [List.length_append, List.length_take] at q1; omega
   have ne799 := fresh_ne hf798 hlt
   have dj800 : DJ v793 v := fun k hk hg => by have q1 := (hO796.lt k hk).1; have q2 := (hO.lt k hg).2; omega
   have z_w794 := E797.size
   have hO := hO.keep0 E797
   have hU := hU.keep0 E797
   have hb := grow_step0 hb E797
   refine op_assign (ev_hit hN rfl) ?_
   refine reg_nil (hK792 _ _ (seq_any fun K801 hK801 => one_reg (op_move (ev_hit hN rfl) (op_move (ev_base hN rfl s1) (op_slice_cutS (k := i) slt90 (ev_hit hN rfl) hO796 (ev_hit hN rfl) (by omega) (by omega) ?_)))))
   refine op_move (ev_base hN rfl s2) ?_
   have hP805 := hO796
   refine op_copy_cutS (k := i) (q := 1) slt90 (ev_hit hN rfl) hP805 (ev_hit hN rfl) (RdC.ofBx (sz := 1) (n := 1) hU rfl (by decide)) hx1 (by omega) (Nat.le_refl _) (.inl rfl) ?_
   intro w802 hO804 E803
   have z_w802 := E803.size
   have hO := hO.keepD E803 dj800.symm
   have hb := grow_stepO hb hP805 E803 (by omega)
   refine reg_nil (hK801 _ _ (seq_any fun K806 hK806 => reg_from mixed ?_))
   intro w808 E807
   have z_w808 := E807.size
   have hO := hO.keep0 E807
   have hO804 := hO804.keep0 E807
   have hb := grow_step0 hb E807
   refine from_still (m := 8) 8 (hd := [_, _, _, _, _, _, _, _]) (by kernel_rfl) rfl rfl ?_
   refine st_step rfl (fun _ h9 => op_move (ev_hit hN rfl) h9) ?_
   refine st_step rfl (fun _ h9 => op_move (ev_base hN rfl s1) h9) ?_
   refine st_step rfl (fun _ h9 => op_move (ev_hit hN rfl) h9) ?_
   refine st_step rfl (fun _ h9 => op_add (ev_hit hN rfl) (ev_hit hN rfl) (add64 (by omega)) h9) ?_
   refine st_step rfl (fun _ h9 => op_slice_cutS (k := i + 1) slt90 (ev_hit hN rfl) hO804 (ev_hit hN rfl) (by omega) (by omega) h9) ?_
   refine st_step rfl (fun _ h9 => op_move (ev_base hN rfl s0) h9) ?_
   refine st_step rfl (fun _ h9 => op_move (ev_base hN rfl s1) h9) ?_
   refine st_step rfl (fun _ h9 => op_slice_cutS (k := i) slt90 (ev_hit hN rfl) hO (ev_hit hN rfl) (by omega) hi h9) ?_
   refine st_nil ?_
   refine from_seq (tl := [_]) (by decide) (by kernel_rfl) rfl ?_
   have hP812 := hO804
   refine op_copy_cutS (k := i + 1) (q := n - i) slt90 (ev_hit hN rfl) hP812 (ev_hit hN rfl) (hO.cutO hi).rdw (all_drop_take h1) (by omega) (Nat.le_refl _) (.inl rfl) ?_
   intro w809 hO811 E810
   have z_w809 := E810.size
   have hb := grow_stepO hb hP812 E810 (by omega)
   refine reg_nil (hK806 _ _ ?_)
   refine seq_any fun K813 hK813 => one_reg (op_move (ev_hit hN rfl) (op_assign (ev_hit hN rfl) (reg_nil (hK813 _ _ (wp_ret (then_ret ( ?_)))))))
   refine ret1 rfl hd (ev_hit hN rfl) ⟨_, rfl, ?_⟩
   exact ⟨hb, (hO811.mono (Nat.zero_le _)).cast rfl (by rw [Nat.add_mul i 1 1]; exact ins_grow (by omega) hzl rfl), .inr hf798⟩
  ·
   refine reg_nil (hK789 _ _ (wp_cond_false (ev_hit hN rfl) (wp_skip ?_)))
   refine hK788 _ _ (seq_any fun K814 hK814 => one_reg (op_move (ev_base hN rfl s0) (op_move (ev_hit hN rfl) (op_move (ev_hit hN rfl) (op_add (ev_hit hN rfl) (ev_hit hN rfl) (add64 (by omega)) ?_)))))
   refine op_slice_hiC (m := n + 1) slt90 (ev_hit hN rfl) hcap791 (ev_hit hN rfl) (by omega) (by omega) ?_
   obtain ⟨sp815, hW816⟩ := hO.wide (m := n + 1) hcap791 (by omega) (by omega)
   refine op_assign (ev_hit hN rfl) (reg_nil (hK814 _ _ (seq_any fun K817 hK817 => ?_)))
   refine seq_any fun K818 hK818 => one_reg (op_move (ev_base hN rfl s2) (op_move (ev_hit hN rfl) (op_move (ev_base hN rfl s1) (op_move (ev_hit hN rfl) (op_add (ev_hit hN rfl) (ev_hit hN rfl) (add64 (by omega)) ?_)))))
   refine op_slice_cutS (k := i + 1) slt90 (ev_hit hN rfl) hW816 (ev_hit hN rfl) (by omega) (by omega) ?_
   refine op_ext2 (ev_hit hN rfl) (ev_hit hN rfl) (ovl99 hU hW816 (hiV_ne hne) (by omega)) ?_
   refine op_not (ev_hit hN rfl) ?_
   refine reg_nil (hK818 _ _ (wp_cond_true (ev_hit hN rfl) (seq_any fun K819 hK819 => reg_from mixed ?_)))
   intro w821 E820
   have z_w821 := E820.size
   have hU := hU.keep0 E820
   have hW816 := hW816.keep0 E820
   have hb := grow_step0 hb E820
   refine from_still (m := 8) 8 (hd := [_, _, _, _, _, _, _, _]) (by kernel_rfl) rfl rfl ?_
   refine st_step rfl (fun _ h9 => op_move (ev_hit hN rfl) h9) ?_
   refine st_step rfl (fun _ h9 => op_move (ev_base hN rfl s1) h9) ?_
   refine st_step rfl (fun _ h9 => op_move (ev_hit hN rfl) h9) ?_
   refine st_step rfl (fun _ h9 => op_add (ev_hit hN rfl) (ev_hit hN rfl) (add64 (by omega)) h9) ?_
   refine st_step rfl (fun _ h9 => op_slice_cutS (k := i + 1) slt90 (ev_hit hN rfl) hW816 (ev_hit hN rfl) (by omega) (by omega) h9) ?_
   refine st_step rfl (fun _ h9 => op_move (ev_hit hN rfl) h9) ?_
   refine st_step rfl (fun _ h9 => op_move (ev_base hN rfl s1) h9) ?_
   refine st_step rfl (fun _ h9 => op_slice_cutS (k := i) slt90 (ev_hit hN rfl) hW816 (ev_hit hN rfl) (by omega) (by omega) h9) ?_
   refine st_nil ?_
   refine from_seq (tl := [_]) (by decide) (by kernel_rfl) rfl ?_
   have hP825 := hW816
   refine op_copy_cutS (k := i + 1) (q := n - i) slt90 (ev_hit hN rfl) hP825 (ev_hit hN rfl) (hW816.cutO (k := i) (by omega)).rdw (all_mid h1 (by have := hO0; omega)) (by omega) (by omega) (.inr (by omega)) ?_
   intro w822 hO824 E823
   have z_w822 := E823.size
   have hU := hU.keep E823 (fun hh => (hiV_ne hne) hh.symm)
   have hb := grow_stepX hb E823 (hiV_ob v (n + 1))
   refine reg_nil (hK819 _ _ (seq_any fun K826 hK826 => one_reg (op_move (ev_hit hN rfl) (op_move (ev_base hN rfl s1) (op_slice_cutS (k := i) slt90 (ev_hit hN rfl) hO824 (ev_hit hN rfl) (by omega) (by omega) ?_)))))
   refine op_move (ev_base hN rfl s2) ?_
   have hP830 := hO824
   refine op_copy_cutS (k := i) (q := 1) slt90 (ev_hit hN rfl) hP830 (ev_hit hN rfl) (RdC.ofBx (sz := 1) (n := 1) hU rfl (by decide)) hx1 (by omega) (by decide) (.inl rfl) ?_
   intro w827 hO829 E828
   have z_w827 := E828.size
   have hb := grow_stepX hb E828 (hiV_ob v (n + 1))
   refine reg_nil (hK826 _ _ ?_)
   refine seq_any fun K831 hK831 => one_reg (op_move (ev_hit hN rfl) (op_assign (ev_hit hN rfl) (reg_nil (hK831 _ _ (wp_ret (then_ret ( ?_)))))))
   refine ret1 rfl hd (ev_hit hN rfl) ⟨_, rfl, ?_⟩
   exact ⟨hb, hO829.cast rfl (by rw [Nat.add_mul i 1 1]; exact ins_room (by omega) (by have := hW816.1; omega) rfl), .inl (hiV_ob _ _)⟩

theorem InsI {n i ub : Nat} {v x0 x1 : Value} {cs : List Value} {w : World} (hO : Own w 0 51 2 v n cs) (hU : Bx w ub 51 [x0, x1]) (h1 : cs.all Value.oneCell' = true) (hx1 : ([x0, x1]).all Value.oneCell' = true) (hi : i ≤ n) (hn : n ≤ 1000) (hne : v.ownBlock ≠ some ub) : Ret Try.prog 83 #[v, (Value.int .i64 ((i : Nat) : Int)), (Value.slice (some ⟨ub, 0, none⟩) 1 1)] w (fun v' w' => w.grownBy w' v.ownBlock ∧ Own w' 0 51 2 v' (n + 1) (cs.take (i * 2) ++ [x0, x1] ++ cs.drop (i * 2)) ∧ (v'.ownBlock = v.ownBlock ∨ ∀ k, v'.ownBlock = some k → w.heap.size ≤ k)) := by
 have h0 : 0 ≤ w.heap.size := Nat.zero_le _
 have hlt := hU.lt
 have hO0 := hO.1
 have hb := grown_refl w v.ownBlock
 refine enter (N := 95) Try.func83 rfl rfl (by simp) fun a0 hN hd hA => ?_
 have s0 : a0.tmps.getD 0 undef = v := hA 0 (by simp)
 have s1 : a0.tmps.getD 1 undef = (Value.int .i64 ((i : Nat) : Int)) := hA 1 (by simp)
 have s2 : a0.tmps.getD 2 undef = (Value.slice (some ⟨ub, 0, none⟩) 1 1) := hA 2 (by simp)
 clear hA
 refine seq_any fun K832 hK832 => one_reg (op_assign rfl ?_)
 refine reg_nil (hK832 _ _ (seq_any fun K833 hK833 => one_reg (op_move (ev_base hN rfl s0) (op_move (ev_base hN rfl s1) (op_slice_cutS (k := i) slt48 (ev_hit hN rfl) hO (ev_hit hN rfl) (by omega) hi ?_)))))
 refine reg_nil (hK833 _ _ (seq_any fun K834 hK834 => one_reg (op_move (ev_base hN rfl s2) (op_len_rd Try.underlying48 (ev_hit hN rfl) (RdC.ofBx (sz := 2) (n := 1) hU rfl (by decide)) ?_))))
 refine op_assign (ev_hit hN rfl) (reg_nil (hK834 _ _ ?_))
 refine seq_any fun K835 hK835 => seq_any fun K836 hK836 => one_reg (op_move (ev_hit hN rfl) (op_bin (v := .bool false) (ev_hit hN rfl) rfl (by rw [binOp_eql]; rfl) (reg_nil (hK836 _ _ ?_))))
 refine wp_cond_false (ev_hit hN rfl) (wp_skip (hK835 _ _ (seq_any fun K837 hK837 => one_reg (op_move (ev_base hN rfl s0) (op_len_rd Try.underlying48 (ev_hit hN rfl) hO.rdw ?_)))))
 refine op_assign (ev_hit hN rfl) (reg_nil (hK837 _ _ (seq_any fun K838 hK838 => seq_any fun K839 hK839 => ?_)))
 refine one_reg (op_move (ev_base hN rfl s1) (op_move (ev_hit hN rfl) (op_eql (ev_hit hN rfl) (ev_hit hN rfl) (fun c22 => ?_) (fun c22 => ?_))))
 ·
  refine reg_nil (hK839 _ _ (wp_cond_true (ev_hit hN rfl) (seq_any fun K840 hK840 => one_reg (op_move (ev_base hN rfl s0) (op_move (ev_base hN rfl s2) ?_)))))
  have hP846 := hO
  refine op_append slt48 (ev_hit hN rfl) hP846 (ev_hit hN rfl) (Src.ofRd Try.underlying48 (by decide) (RdC.ofBx (sz := 2) (n := 1) hU rfl (by decide)) hx1) (by unfold maxLen; omega) (by omega) (Nat.le_trans (by assumption) hb.size) ?_
  intro v841 w842 hO844 E843 hm845
  have z_w842 := E843.size
  have hb := grow_stepX hb E843 rfl
  have hO844 : Own w842 0 51 2 v841 (n + 1) ((cs ++ [x0, x1])) := by simpa [u8v, sv] using hO844
  have ne_ub_v841 : v841.ownBlock ≠ some ub := ne_step (w1 := w) ⟨E843, hm845⟩ (by omega) hne
  refine op_assign (ev_hit hN rfl) (reg_nil (hK840 _ _ (wp_ret (then_ret ( ?_)))))
  refine ret1 rfl hd (ev_hit hN rfl) ⟨_, rfl, ?_⟩
  exact ⟨hb, hO844.cast rfl (by rw [show i = n by omega]; exact (ins_end hO0).symm), hm845⟩
 ·
  refine reg_nil (hK839 _ _ (wp_cond_false (ev_hit hN rfl) (wp_skip ?_)))
  refine hK838 _ _ (seq_any fun K847 hK847 => seq_any fun K848 hK848 => one_reg (op_move (ev_hit hN rfl) (op_move (ev_hit hN rfl) (op_add (ev_hit hN rfl) (ev_hit hN rfl) (add64 (by omega)) ?_))))
  refine op_move (ev_base hN rfl s0) ?_
  obtain ⟨cap849, hcap850_1, hcap850_2, hcap850⟩ := hO.capOf
  have hcap850_3 : cap849 ≤ 9223372036854775807 := hcap850_2
  refine op_cap (c := cap849) Try.underlying48 (by rw [(ev_hit hN rfl)]; exact hcap850) ?_
  refine op_gtr (ev_hit hN rfl) (ev_hit hN rfl) (fun c31 => ?_) (fun c31 => ?_)
  ·
   refine reg_nil ?_
   refine hK848 _ _ (wp_cond_true (ev_hit hN rfl) (seq_any fun K851 hK851 => one_reg (op_move (ev_base hN rfl s0) (op_move (ev_base hN rfl s1) (op_slice_hiC (m := i) slt48 (ev_hit hN rfl) hcap850 (ev_hit hN rfl) rfl (by omega) ?_)))))
   refine op_move (ev_hit hN rfl) (op_move (ev_hit hN rfl) (op_add (ev_hit hN rfl) (ev_hit hN rfl) (add64 (by omega)) ?_))
   refine op_move (ev_base hN rfl s1) (op_sub (r := ((n + 1 - i : Nat) : Int)) (ev_hit hN rfl) (ev_hit hN rfl) ((sub64 (by omega)).trans (by omega)) ?_)
   refine op_append_zeros_grow (i := i) (m := n + 1 - i) slt48 Try.underlying3 (ev_hit hN rfl) hO hcap850 hi (ev_hit hN rfl) rfl (by omega) (by omega) (by omega) (by omega) (Nat.zero_le _) ?_
   intro v852 w853 zs854 hO855 E856 hf857
   have hO855 : Own w853 w.heap.size 51 2 v852 (n + 1) (cs.take (i * 2) ++ zs854) := (hO855.cast (by omega) rfl).rebase hf857
   have hzl : zs854.length = (n - i) * 2 + 1 * 2 := by have q1 := hO855.1; have q2 := hO.1; rw [List.length_append, List.length_take] at q1; omega
   have ne858 := fresh_ne hf857 hlt
   have dj859 : DJ v852 v := fun k hk hg => by have q1 := (hO855.lt k hk).1; have q2 := (hO.lt k hg).2; omega
   have z_w853 := E856.size
   have hO := hO.keep0 E856
   have hU := hU.keep0 E856
   have hb := grow_step0 hb E856
   refine op_assign (ev_hit hN rfl) ?_
   refine reg_nil (hK851 _ _ (seq_any fun K860 hK860 => one_reg (op_move (ev_hit hN rfl) (op_move (ev_base hN rfl s1) (op_slice_cutS (k := i) slt48 (ev_hit hN rfl) hO855 (ev_hit hN rfl) (by omega) (by omega) ?_)))))
   refine op_move (ev_base hN rfl s2) ?_
   have hP864 := hO855
   refine op_copy_cutS (k := i) (q := 1) slt48 (ev_hit hN rfl) hP864 (ev_hit hN rfl) (RdC.ofBx (sz := 2) (n := 1) hU rfl (by decide)) hx1 (by omega) (Nat.le_refl _) (.inl rfl) ?_
   intro w861 hO863 E862
   have z_w861 := E862.size
   have hO := hO.keepD E862 dj859.symm
   have hb := grow_stepO hb hP864 E862 (by omega)
   refine reg_nil (hK860 _ _ (seq_any fun K865 hK865 => reg_from mixed ?_))
   intro w867 E866
   have z_w867 := E866.size
   have hO := hO.keep0 E866
   have hO863 := hO863.keep0 E866
   have hb := grow_step0 hb E866
   refine from_still (m := 8) 8 (hd := [_, _, _, _, _, _, _, _]) (by kernel_rfl) rfl rfl ?_
   refine st_step rfl (fun _ h9 => op_move (ev_hit hN rfl) h9) ?_
   refine st_step rfl (fun _ h9 => op_move (ev_base hN rfl s1) h9) ?_
   refine st_step rfl (fun _ h9 => op_move (ev_hit hN rfl) h9) ?_
   refine st_step rfl (fun _ h9 => op_add (ev_hit hN rfl) (ev_hit hN rfl) (add64 (by omega)) h9) ?_
   refine st_step rfl (fun _ h9 => op_slice_cutS (k := i + 1) slt48 (ev_hit hN rfl) hO863 (ev_hit hN rfl) (by omega) (by omega) h9) ?_
   refine st_step rfl (fun _ h9 => op_move (ev_base hN rfl s0) h9) ?_
   refine st_step rfl (fun _ h9 => op_move (ev_base hN rfl s1) h9) ?_
   refine st_step rfl (fun _ h9 => op_slice_cutS (k := i) slt48 (ev_hit hN rfl) hO (ev_hit hN rfl) (by omega) hi h9) ?_
   refine st_nil ?_
   refine from_seq (tl := [_]) (by decide) (by kernel_rfl) rfl ?_
   have hP871 := hO863
   refine op_copy_cutS (k := i + 1) (q := n - i) slt48 (ev_hit hN rfl) hP871 (ev_hit hN rfl) (hO.cutO hi).rdw (all_drop_take h1) (by omega) (Nat.le_refl _) (.inl rfl) ?_
   intro w868 hO870 E869
   have z_w868 := E869.size
   have hb := grow_stepO hb hP871 E869 (by omega)
   refine reg_nil (hK865 _ _ ?_)
   refine seq_any fun K872 hK872 => one_reg (op_move (ev_hit hN rfl) (op_assign (ev_hit hN rfl) (reg_nil (hK872 _ _ (wp_ret (then_ret ( ?_)))))))
   refine ret1 rfl hd (ev_hit hN rfl) ⟨_, rfl, ?_⟩
   exact ⟨hb, (hO870.mono (Nat.zero_le _)).cast rfl (by rw [Nat.add_mul i 1 2]; exact ins_grow (by omega) hzl rfl), .inr hf857⟩
  ·
   refine reg_nil (hK848 _ _ (wp_cond_false (ev_hit hN rfl) (wp_skip ?_)))
   refine hK847 _ _ (seq_any fun K873 hK873 => one_reg (op_move (ev_base hN rfl s0) (op_move (ev_hit hN rfl) (op_move (ev_hit hN rfl) (op_add (ev_hit hN rfl) (ev_hit hN rfl) (add64 (by omega)) ?_)))))
   refine op_slice_hiC (m := n + 1) slt48 (ev_hit hN rfl) hcap850 (ev_hit hN rfl) (by omega) (by omega) ?_
   obtain ⟨sp874, hW875⟩ := hO.wide (m := n + 1) hcap850 (by omega) (by omega)
   refine op_assign (ev_hit hN rfl) (reg_nil (hK873 _ _ (seq_any fun K876 hK876 => ?_)))
   refine seq_any fun K877 hK877 => one_reg (op_move (ev_base hN rfl s2) (op_move (ev_hit hN rfl) (op_move (ev_base hN rfl s1) (op_move (ev_hit hN rfl) (op_add (ev_hit hN rfl) (ev_hit hN rfl) (add64 (by omega)) ?_)))))
   refine op_slice_cutS (k := i + 1) slt48 (ev_hit hN rfl) hW875 (ev_hit hN rfl) (by omega) (by omega) ?_
   refine op_ext2 (ev_hit hN rfl) (ev_hit hN rfl) (ovl115 hU hW875 (hiV_ne hne) (by omega)) ?_
   refine op_not (ev_hit hN rfl) ?_
   refine reg_nil (hK877 _ _ (wp_cond_true (ev_hit hN rfl) (seq_any fun K878 hK878 => reg_from mixed ?_)))
   intro w880 E879
   have z_w880 := E879.size
   have hU := hU.keep0 E879
   have hW875 := hW875.keep0 E879
   have hb := grow_step0 hb E879
   refine from_still (m := 8) 8 (hd := [_, _, _, _, _, _, _, _]) (by kernel_rfl) rfl rfl ?_
   refine st_step rfl (fun _ h9 => op_move (ev_hit hN rfl) h9) ?_
   refine st_step rfl (fun _ h9 => op_move (ev_base hN rfl s1) h9) ?_
   refine st_step rfl (fun _ h9 => op_move (ev_hit hN rfl) h9) ?_
   refine st_step rfl (fun _ h9 => op_add (ev_hit hN rfl) (ev_hit hN rfl) (add64 (by omega)) h9) ?_
   refine st_step rfl (fun _ h9 => op_slice_cutS (k := i + 1) slt48 (ev_hit hN rfl) hW875 (ev_hit hN rfl) (by omega) (by omega) h9) ?_
   refine st_step rfl (fun _ h9 => op_move (ev_hit hN rfl) h9) ?_
   refine st_step rfl (fun _ h9 => op_move (ev_base hN rfl s1) h9) ?_
   refine st_step rfl (fun _ h9 => op_slice_cutS (k := i) slt48 (ev_hit hN rfl) hW875 (ev_hit hN rfl) (by omega) (by omega) h9) ?_
   refine st_nil ?_
   refine from_seq (tl := [_]) (by decide) (by kernel_rfl) rfl ?_
   have hP884 := hW875
   refine op_copy_cutS (k := i + 1) (q := n - i) slt48 (ev_hit hN rfl) hP884 (ev_hit hN rfl) (hW875.cutO (k := i) (by omega)).rdw (all_mid h1 (by have := hO0; omega)) (by omega) (by omega) (.inr (by omega)) ?_
   intro w881 hO883 E882
   have z_w881 := E882.size
   have hU := hU.keep E882 (fun hh => (hiV_ne hne) hh.symm)
   have hb := grow_stepX hb E882 (hiV_ob v (n + 1))
   refine reg_nil (hK878 _ _ (seq_any fun K885 hK885 => one_reg (op_move (ev_hit hN rfl) (op_move (ev_base hN rfl s1) (op_slice_cutS (k := i) slt48 (ev_hit hN rfl) hO883 (ev_hit hN rfl) (by omega) (by omega) ?_)))))
   refine op_move (ev_base hN rfl s2) ?_
   have hP889 := hO883
   refine op_copy_cutS (k := i) (q := 1) slt48 (ev_hit hN rfl) hP889 (ev_hit hN rfl) (RdC.ofBx (sz := 2) (n := 1) hU rfl (by decide)) hx1 (by omega) (by decide) (.inl rfl) ?_
   intro w886 hO888 E887
   have z_w886 := E887.size
   have hb := grow_stepX hb E887 (hiV_ob v (n + 1))
   refine reg_nil (hK885 _ _ ?_)
   refine seq_any fun K890 hK890 => one_reg (op_move (ev_hit hN rfl) (op_assign (ev_hit hN rfl) (reg_nil (hK890 _ _ (wp_ret (then_ret ( ?_)))))))
   refine ret1 rfl hd (ev_hit hN rfl) ⟨_, rfl, ?_⟩
   exact ⟨hb, hO888.cast rfl (by rw [Nat.add_mul i 1 2]; exact ins_room (by omega) (by have := hW875.1; omega) rfl), .inl (hiV_ob _ _)⟩

theorem InsNI {n i ub : Nat} {v x0 : Value} {cs : List Value} {w : World} (hO : Own w 0 69 1 v n cs) (hU : Bx w ub 69 [x0]) (h1 : cs.all Value.oneCell' = true) (hx1 : ([x0]).all Value.oneCell' = true) (hi : i ≤ n) (hn : n ≤ 1000) (hne : v.ownBlock ≠ some ub) : Ret Try.prog 85 #[v, (Value.int .i64 ((i : Nat) : Int)), (Value.slice (some ⟨ub, 0, none⟩) 1 1)] w (fun v' w' => w.grownBy w' v.ownBlock ∧ Own w' 0 69 1 v' (n + 1) (cs.take (i * 1) ++ [x0] ++ cs.drop (i * 1)) ∧ (v'.ownBlock = v.ownBlock ∨ ∀ k, v'.ownBlock = some k → w.heap.size ≤ k)) := by
 have h0 : 0 ≤ w.heap.size := Nat.zero_le _
 have hlt := hU.lt
 have hO0 := hO.1
 have hb := grown_refl w v.ownBlock
 refine enter (N := 95) Try.func85 rfl rfl (by simp) fun a0 hN hd hA => ?_
 have s0 : a0.tmps.getD 0 undef = v := hA 0 (by simp)
 have s1 : a0.tmps.getD 1 undef = (Value.int .i64 ((i : Nat) : Int)) := hA 1 (by simp)
 have s2 : a0.tmps.getD 2 undef = (Value.slice (some ⟨ub, 0, none⟩) 1 1) := hA 2 (by simp)
 clear hA
 refine seq_any fun K891 hK891 => one_reg (op_assign rfl ?_)
 refine reg_nil (hK891 _ _ (seq_any fun K892 hK892 => one_reg (op_move (ev_base hN rfl s0) (op_move (ev_base hN rfl s1) (op_slice_cutS (k := i) slt113 (ev_hit hN rfl) hO (ev_hit hN rfl) (by omega) hi ?_)))))
 refine reg_nil (hK892 _ _ (seq_any fun K893 hK893 => one_reg (op_move (ev_base hN rfl s2) (op_len_rd Try.underlying113 (ev_hit hN rfl) (RdC.ofBx (sz := 1) (n := 1) hU rfl (by decide)) ?_))))
 refine op_assign (ev_hit hN rfl) (reg_nil (hK893 _ _ ?_))
 refine seq_any fun K894 hK894 => seq_any fun K895 hK895 => one_reg (op_move (ev_hit hN rfl) (op_bin (v := .bool false) (ev_hit hN rfl) rfl (by rw [binOp_eql]; rfl) (reg_nil (hK895 _ _ ?_))))
 refine wp_cond_false (ev_hit hN rfl) (wp_skip (hK894 _ _ (seq_any fun K896 hK896 => one_reg (op_move (ev_base hN rfl s0) (op_len_rd Try.underlying113 (ev_hit hN rfl) hO.rdw ?_)))))
 refine op_assign (ev_hit hN rfl) (reg_nil (hK896 _ _ (seq_any fun K897 hK897 => seq_any fun K898 hK898 => ?_)))
 refine one_reg (op_move (ev_base hN rfl s1) (op_move (ev_hit hN rfl) (op_eql (ev_hit hN rfl) (ev_hit hN rfl) (fun c22 => ?_) (fun c22 => ?_))))
 ·
  refine reg_nil (hK898 _ _ (wp_cond_true (ev_hit hN rfl) (seq_any fun K899 hK899 => one_reg (op_move (ev_base hN rfl s0) (op_move (ev_base hN rfl s2) ?_)))))
  have hP905 := hO
  refine op_append slt113 (ev_hit hN rfl) hP905 (ev_hit hN rfl) (Src.ofRd Try.underlying113 (by decide) (RdC.ofBx (sz := 1) (n := 1) hU rfl (by decide)) hx1) (by unfold maxLen; omega) (by omega) (Nat.le_trans (by assumption) hb.size) ?_
  intro v900 w901 hO903 E902 hm904
  have z_w901 := E902.size
  have hb := grow_stepX hb E902 rfl
  have hO903 : Own w901 0 69 1 v900 (n + 1) ((cs ++ [x0])) := by simpa [u8v, sv] using hO903
  have ne_ub_v900 : v900.ownBlock ≠ some ub := ne_step (w1 := w) ⟨E902, hm904⟩ (by omega) hne
  refine op_assign (ev_hit hN rfl) (reg_nil (hK899 _ _ (wp_ret (then_ret ( ?_)))))
  refine ret1 rfl hd (ev_hit hN rfl) ⟨_, rfl, ?_⟩
  exact ⟨hb, hO903.cast rfl (by rw [show i = n by omega]; exact (ins_end hO0).symm), hm904⟩
 ·
  refine reg_nil (hK898 _ _ (wp_cond_false (ev_hit hN rfl) (wp_skip ?_)))
  refine hK897 _ _ (seq_any fun K906 hK906 => seq_any fun K907 hK907 => one_reg (op_move (ev_hit hN rfl) (op_move (ev_hit hN rfl) (op_add (ev_hit hN rfl) (ev_hit hN rfl) (add64 (by omega)) ?_))))
  refine op_move (ev_base hN rfl s0) ?_
  obtain ⟨cap908, hcap909_1, hcap909_2, hcap909⟩ := hO.capOf
  have hcap909_3 : cap908 ≤ 9223372036854775807 := hcap909_2
  refine op_cap (c := cap908) Try.underlying113 (by rw [(ev_hit hN rfl)]; exact hcap909) ?_
  refine op_gtr (ev_hit hN rfl) (ev_hit hN rfl) (fun c31 => ?_) (fun c31 => ?_)
  ·
   refine reg_nil ?_
   refine hK907 _ _ (wp_cond_true (ev_hit hN rfl) (seq_any fun K910 hK910 => one_reg (op_move (ev_base hN rfl s0) (op_move (ev_base hN rfl s1) (op_slice_hiC (m := i) slt113 (ev_hit hN rfl) hcap909 (ev_hit hN rfl) rfl (by omega) ?_)))))
   refine op_move (ev_hit hN rfl) (op_move (ev_hit hN rfl) (op_add (ev_hit hN rfl) (ev_hit hN rfl) (add64 (by omega)) ?_))
   refine op_move (ev_base hN rfl s1) (op_sub (r := ((n + 1 - i : Nat) : Int)) (ev_hit hN rfl) (ev_hit hN rfl) ((sub64 (by omega)).trans (by omega)) ?_)
   refine op_append_zeros_grow (i := i) (m := n + 1 - i) slt113 Try.underlying3 (ev_hit hN rfl) hO hcap909 hi (ev_hit hN rfl) rfl (by omega) (by omega) (by omega) (by omega) (Nat.zero_le _) ?_
   intro v911 w912 zs913 hO914 E915 hf916
   have hO914 : Own w912 w.heap.size 69 1 v911 (n + 1) (cs.take (i * 1) ++ zs913) := (hO914.cast (by omega) rfl).rebase hf916
   have hzl : zs913.length = (n - i) * 1 + 1 * 1 := by have q1 := hO914.1; have q2 := hO.1; rw [List.length_append, List.length_take] at q1; omega
   have ne917 := fresh_ne hf916 hlt
   have dj918 : DJ v911 v := fun k hk hg => by have q1 := (hO914.lt k hk).1; have q2 := (hO.lt k hg).2; omega
   have z_w912 := E915.size
   have hO := hO.keep0 E915
   have hU := hU.keep0 E915
   have hb := grow_step0 hb E915
   refine op_assign (ev_hit hN rfl) ?_
   refine reg_nil (hK910 _ _ (seq_any fun K919 hK919 => one_reg (op_move (ev_hit hN rfl) (op_move (ev_base hN rfl s1) (op_slice_cutS (k := i) slt113 (ev_hit hN rfl) hO914 (ev_hit hN rfl) (by omega) (by omega) ?_)))))
   refine op_move (ev_base hN rfl s2) ?_
   have hP923 := hO914
   refine op_copy_cutS (k := i) (q := 1) slt113 (ev_hit hN rfl) hP923 (ev_hit hN rfl) (RdC.ofBx (sz := 1) (n := 1) hU rfl (by decide)) hx1 (by omega) (Nat.le_refl _) (.inl rfl) ?_
   intro w920 hO922 E921
   have z_w920 := E921.size
   have hO := hO.keepD E921 dj918.symm
   have hb := grow_stepO hb hP923 E921 (by omega)
   refine reg_nil (hK919 _ _ (seq_any fun K924 hK924 => reg_from mixed ?_))
   intro w926 E925
   have z_w926 := E925.size
   have hO := hO.keep0 E925
   have hO922 := hO922.keep0 E925
   have hb := grow_step0 hb E925
   refine from_still (m := 8) 8 (hd := [_, _, _, _, _, _, _, _]) (by kernel_rfl) rfl rfl ?_
   refine st_step rfl (fun _ h9 => op_move (ev_hit hN rfl) h9) ?_
   refine st_step rfl (fun _ h9 => op_move (ev_base hN rfl s1) h9) ?_
   refine st_step rfl (fun _ h9 => op_move (ev_hit hN rfl) h9) ?_
   refine st_step rfl (fun _ h9 => op_add (ev_hit hN rfl) (ev_hit hN rfl) (add64 (by omega)) h9) ?_
   refine st_step rfl (fun _ h9 => op_slice_cutS (k := i + 1) slt113 (ev_hit hN rfl) hO922 (ev_hit hN rfl) (by omega) (by omega) h9) ?_
   refine st_step rfl (fun _ h9 => op_move (ev_base hN rfl s0) h9) ?_
   refine st_step rfl (fun _ h9 => op_move (ev_base hN rfl s1) h9) ?_
   refine st_step rfl (fun _ h9 => op_slice_cutS (k := i) slt113 (ev_hit hN rfl) hO (ev_hit hN rfl) (by omega) hi h9) ?_
   refine st_nil ?_
   refine from_seq (tl := [_]) (by decide) (by kernel_rfl) rfl ?_
   have hP930 := hO922
   refine op_copy_cutS (k := i + 1) (q := n - i) slt113 (ev_hit hN rfl) hP930 (ev_hit hN rfl) (hO.cutO hi).rdw (all_drop_take h1) (by omega) (Nat.le_refl _) (.inl rfl) ?_
   intro w927 hO929 E928
   have z_w927 := E928.size
   have hb := grow_stepO hb hP930 E928 (by omega)
   refine reg_nil (hK924 _ _ ?_)
   refine seq_any fun K931 hK931 => one_reg (op_move (ev_hit hN rfl) (op_assign (ev_hit hN rfl) (reg_nil (hK931 _ _ (wp_ret (then_ret ( ?_)))))))
   refine ret1 rfl hd (ev_hit hN rfl) ⟨_, rfl, ?_⟩
   exact ⟨hb, (hO929.mono (Nat.zero_le _)).cast rfl (by rw [Nat.add_mul i 1 1]; exact ins_grow (by omega) hzl rfl), .inr hf916⟩
  ·
   refine reg_nil (hK907 _ _ (wp_cond_false (ev_hit hN rfl) (wp_skip ?_)))
   refine hK906 _ _ (seq_any fun K932 hK932 => one_reg (op_move (ev_base hN rfl s0) (op_move (ev_hit hN rfl) (op_move (ev_hit hN rfl) (op_add (ev_hit hN rfl) (ev_hit hN rfl) (add64 (by omega)) ?_)))))
   refine op_slice_hiC (m := n + 1) slt113 (ev_hit hN rfl) hcap909 (ev_hit hN rfl) (by omega) (by omega) ?_
   obtain ⟨sp933, hW934⟩ := hO.wide (m := n + 1) hcap909 (by omega) (by omega)
   refine op_assign (ev_hit hN rfl) (reg_nil (hK932 _ _ (seq_any fun K935 hK935 => ?_)))
   refine seq_any fun K936 hK936 => one_reg (op_move (ev_base hN rfl s2) (op_move (ev_hit hN rfl) (op_move (ev_base hN rfl s1) (op_move (ev_hit hN rfl) (op_add (ev_hit hN rfl) (ev_hit hN rfl) (add64 (by omega)) ?_)))))
   refine op_slice_cutS (k := i + 1) slt113 (ev_hit hN rfl) hW934 (ev_hit hN rfl) (by omega) (by omega) ?_
   refine op_ext2 (ev_hit hN rfl) (ev_hit hN rfl) (ovl117 hU hW934 (hiV_ne hne) (by omega)) ?_
   refine op_not (ev_hit hN rfl) ?_
   refine reg_nil (hK936 _ _ (wp_cond_true (ev_hit hN rfl) (seq_any fun K937 hK937 => reg_from mixed ?_)))
   intro w939 E938
   have z_w939 := E938.size
   have hU := hU.keep0 E938
   have hW934 := hW934.keep0 E938
   have hb := grow_step0 hb E938
   refine from_still (m := 8) 8 (hd := [_, _, _, _, _, _, _, _]) (by kernel_rfl) rfl rfl ?_
   refine st_step rfl (fun _ h9 => op_move (ev_hit hN rfl) h9) ?_
   refine st_step rfl (fun _ h9 => op_move (ev_base hN rfl s1) h9) ?_
   refine st_step rfl (fun _ h9 => op_move (ev_hit hN rfl) h9) ?_
   refine st_step rfl (fun _ h9 => op_add (ev_hit hN rfl) (ev_hit hN rfl) (add64 (by omega)) h9) ?_
   refine st_step rfl (fun _ h9 => op_slice_cutS (k := i + 1) slt113 (ev_hit hN rfl) hW934 (ev_hit hN rfl) (by omega) (by omega) h9) ?_
   refine st_step rfl (fun _ h9 => op_move (ev_hit hN rfl) h9) ?_
   refine st_step rfl (fun _ h9 => op_move (ev_base hN rfl s1) h9) ?_
   refine st_step rfl (fun _ h9 => op_slice_cutS (k := i) slt113 (ev_hit hN rfl) hW934 (ev_hit hN rfl) (by omega) (by omega) h9) ?_
   refine st_nil ?_
   refine from_seq (tl := [_]) (by decide) (by kernel_rfl) rfl ?_
   have hP943 := hW934
   refine op_copy_cutS (k := i + 1) (q := n - i) slt113 (ev_hit hN rfl) hP943 (ev_hit hN rfl) (hW934.cutO (k := i) (by omega)).rdw (all_mid h1 (by have := hO0; omega)) (by omega) (by omega) (.inr (by omega)) ?_
   intro w940 hO942 E941
   have z_w940 := E941.size
   have hU := hU.keep E941 (fun hh => (hiV_ne hne) hh.symm)
   have hb := grow_stepX hb E941 (hiV_ob v (n + 1))
   refine reg_nil (hK937 _ _ (seq_any fun K944 hK944 => one_reg (op_move (ev_hit hN rfl) (op_move (ev_base hN rfl s1) (op_slice_cutS (k := i) slt113 (ev_hit hN rfl) hO942 (ev_hit hN rfl) (by omega) (by omega) ?_)))))
   refine op_move (ev_base hN rfl s2) ?_
   have hP948 := hO942
   refine op_copy_cutS (k := i) (q := 1) slt113 (ev_hit hN rfl) hP948 (ev_hit hN rfl) (RdC.ofBx (sz := 1) (n := 1) hU rfl (by decide)) hx1 (by omega) (by decide) (.inl rfl) ?_
   intro w945 hO947 E946
   have z_w945 := E946.size
   have hb := grow_stepX hb E946 (hiV_ob v (n + 1))
   refine reg_nil (hK944 _ _ ?_)
   refine seq_any fun K949 hK949 => one_reg (op_move (ev_hit hN rfl) (op_assign (ev_hit hN rfl) (reg_nil (hK949 _ _ (wp_ret (then_ret ( ?_)))))))
   refine ret1 rfl hd (ev_hit hN rfl) ⟨_, rfl, ?_⟩
   exact ⟨hb, hO947.cast rfl (by rw [Nat.add_mul i 1 1]; exact ins_room (by omega) (by have := hW934.1; omega) rfl), .inl (hiV_ob _ _)⟩

end Go.Proofs.Ytcpfdfejojghbaa

namespace Go.Gx
open Go.Bt Go.RowKit
section
variable {V : Type} {κ : Kd V} {w w' : World} {F G H W W' W2 R : Nat → Prop} {base e sz n b t h p q i : Nat} {u m pv kv cv : Value} {cs : List Value} {D : List (DP V)} {K : List DK} {P : List Nat} {k : Ky} {x : V}
def OutR (κ : Kd V) (R : Nat → Prop) (w : World) (n : Nat) (W : Nat → Prop) (h p : Nat) (x : Tr V h × Option (Ky × Tr V h)) (u m : Value) : Prop :=
  match x with
  | (t, none) => u = nilV ∧ m = .pointer none ∧ ∃ W', TreeR κ R w h p t W' ∧ NewF n W W'
  | (t, some (k, t2)) => ∃ q W' W2, m = ptr q 0 ∧ Own w 0 5 1 u k.length (k.map u8v) ∧ (∀ j, Bl u j → R j) ∧ TreeR κ R w h p t W' ∧ TreeR κ R w h q t2 W2 ∧ NewF n W W' ∧ NewF n W W2 ∧ Dj W' W2
def leafW (p : Nat) (pv : Value) : Nat → Prop := fun y => y = p ∨ Bl pv y
theorem leafW_ty (B : Bx w p κ.tB [pv, nilV, nilV]) (O : Own w base κ.tP κ.pc pv n cs) : TyF κ w (leafW p pv) := (TyF.ofBx B (.inl rfl)).or (TyF.ofOwn O (.inr (.inl rfl)))
theorem mkLeaf {l : List (Ky × V)} (B : Bx w p κ.tB [pv, nilV, nilV]) (O : Own w base κ.tP κ.pc pv D.length (D.flatMap κ.ce)) (ks : ∀ x9 ∈ D.map pk, Own w 0 5 1 x9.1 x9.2.length (x9.2.map u8v)) (kr : ∀ x9 ∈ D.map pk, ∀ k, Bl x9.1 k → R k) (e : D.map Prod.snd = l) : TreeR κ R w 0 p (l : Tr V 0) (leafW p pv) :=
  ⟨pv, D, ⟨B, O.mono (Nat.zero_le _), ks, kr, .inl rfl, fun _ h => .inr h, leafW_ty B O⟩, e⟩
theorem leafW_fresh (hp : n ≤ p) (O : Own w n e sz pv b cs) : ∀ j, leafW p pv j → n ≤ j := fun j hj => hj.elim (fun e => e ▸ hp) (fun q => (O.lt j q).1)
theorem new_dj (hW : ∀ j, W j → j < n) (h2 : ∀ j, W2 j → n ≤ j) : Dj W W2 := fun j h1 q => by have := hW j h1; have := h2 j q; omega
theorem inF_step {F : Nat → Prop} {v v2 : Value} {n n2 : Nat} (hm : v2.ownBlock = v.ownBlock ∨ ∀ k, v2.ownBlock = some k → n2 ≤ k) (hn : n ≤ n2) (h : ∀ k, k < n → Bl v k → F k) : ∀ k, k < n → Bl v2 k → F k := fun k hk hb => by
  rcases hm with hm | hm
  · exact h k hk (hm.symm.trans hb)
  · have := hm k hb; omega
theorem newF_in (h : ∀ k, k < n → W' k → W k) : NewF n W W' := fun k hk => by
  by_cases q : k < n
  · exact .inl (h k q hk)
  · exact .inr (by omega)
theorem leafW_in (hp : p < n → W p) (hv : ∀ k, k < n → Bl pv k → W k) : ∀ k, k < n → leafW p pv k → W k := fun k hk hj => hj.elim (fun e => by subst e; exact hp hk) (hv k hk)
/-! leaves that change -/
theorem set_map9 {i : Nat} {d : DP V} : (D.set i d).map Prod.snd = (D.map Prod.snd).set i d.2 := List.map_set ..
theorem put_found {x : V} (hc : (kys D).contains k = true) [Inhabited V] : putT 0 k x ((D.map Prod.snd : List (Ky × V)) : Tr V 0) = (true, ((D.set (pos (kys D) k) ((D.getD (pos (kys D) k) default).1, (D.getD (pos (kys D) k) default).2.1, x)).map Prod.snd : List (Ky × V)), none) := by
  rw [put0]
  have hh : hasK (D.map Prod.snd) k = true := hc
  rw [if_pos hh, set_map9]
  have hx : k ∈ kys D := List.contains_iff_mem.1 hc
  have hl : pos (kys D) k < D.length ∨ ¬ pos (kys D) k < D.length := Nat.lt_or_ge _ _ |>.imp id (Nat.not_lt_of_le)
  show (true, ((D.map Prod.snd).set (pos (kys D) k) (((D.map Prod.snd).getD (pos (kys D) k) (k, x)).1, x) : List (Ky × V)), (none : Option (Ky × Tr V 0))) = _
  rcases hl with hl | hl
  · have e : (D.map Prod.snd).getD (pos (kys D) k) (k, x) = (D.getD (pos (kys D) k) default).2 := by simp [List.getD_eq_getElem?_getD, hl]
    rw [e]
  · rw [List.set_eq_of_length_le (by simp; omega), List.set_eq_of_length_le (by simp; omega)]
theorem put_miss {x : V} {kv : Value} (hc : (kys D).contains k = false) (hi : pos (kys D) k ≤ D.length) : putT 0 k x ((D.map Prod.snd : List (Ky × V)) : Tr V 0) = (false, halves 0 (((D.insertIdx (pos (kys D) k) (kv, k, x)).map Prod.snd : List (Ky × V)) : Tr V 0)) := by
  rw [put0]
  have hh : ¬ hasK (D.map Prod.snd) k = true := by show ¬ (kys D).contains k = true; rw [hc]; decide
  rw [if_neg hh, ← map_ins9 (f := Prod.snd) hi]
  rfl
theorem pos_ltP (hs : Sorted (kys D)) (hc : (kys D).contains k = true) : pos (kys D) k < D.length := by
  obtain ⟨h, _⟩ := pos_hit hs (List.contains_iff_mem.1 hc)
  rwa [kys_len] at h
theorem halves_small {l : List (Ky × V)} (h6 : l.length ≤ 6) : halves 0 (l : Tr V 0) = (l, none) := if_pos h6
theorem halves_big [Inhabited V] (h6 : 6 < D.length) : halves 0 ((D.map Prod.snd : List (Ky × V)) : Tr V 0) = (((D.take (D.length - 3)).map Prod.snd : List (Ky × V)), some (((D.drop (D.length - 3)).getD 0 default).2.1, ((D.drop (D.length - 3)).map Prod.snd : List (Ky × V)))) := by
  have h : ¬ (D.map Prod.snd).length ≤ 6 := by simp; omega
  show (if (D.map Prod.snd).length ≤ 6 then _ else _) = _
  rw [if_neg h]
  have e1 : (D.map Prod.snd).length = D.length := by simp
  rw [e1, List.map_take, List.map_drop]
  have e2 : hd ((D.map Prod.snd).drop (D.length - 3)) = ((D.drop (D.length - 3)).getD 0 default).2.1 := by
    have hl : D.length - 3 < D.length := by omega
    simp [hd, List.head?_drop, List.getD_eq_getElem?_getD, hl]
  rw [e2]
  rfl
theorem out_small {l : List (Ky × V)} {X : Tr V 0 × Option (Ky × Tr V 0)} (hX : X = (l, none)) (T : TreeR κ R w 0 p (l : Tr V 0) W') (N : NewF n W W') : OutR κ R w n W 0 p X nilV (.pointer none) := by
  subst hX; exact ⟨rfl, rfl, W', T, N⟩
theorem out_big {h : Nat} {t t2 : Tr V h} {X : Tr V h × Option (Ky × Tr V h)} (hX : X = (t, some (k, t2))) (O : Own w 0 5 1 u k.length (k.map u8v)) (hr : ∀ j, Bl u j → R j) (T : TreeR κ R w h p t W') (T2 : TreeR κ R w h q t2 W2) (N : NewF n W W') (N2 : NewF n W W2) (hd : Dj W' W2) : OutR κ R w n W h p X u (ptr q 0) := by
  subst hX; exact ⟨q, W', W2, rfl, O, hr, T, T2, N, N2, hd⟩
theorem ks_ins {d : DP V} (ks : ∀ x9 ∈ D.map pk, Own w 0 5 1 x9.1 x9.2.length (x9.2.map u8v)) (hd : Own w 0 5 1 d.1 d.2.1.length (d.2.1.map u8v)) (hi : i ≤ D.length) : ∀ x9 ∈ (D.insertIdx i d).map pk, Own w 0 5 1 x9.1 x9.2.length (x9.2.map u8v) := fun x hx => by
  rw [insIdx d hi, List.map_append, List.map_cons, List.mem_append, List.mem_cons] at hx
  rcases hx with hx | rfl | hx
  · obtain ⟨y, hy, rfl⟩ := List.mem_map.1 hx; exact ks _ (List.mem_map.2 ⟨y, List.mem_of_mem_take hy, rfl⟩)
  · exact hd
  · obtain ⟨y, hy, rfl⟩ := List.mem_map.1 hx; exact ks _ (List.mem_map.2 ⟨y, List.mem_of_mem_drop hy, rfl⟩)
theorem kr_ins {d : DP V} (kr : ∀ x9 ∈ D.map pk, ∀ k, Bl x9.1 k → R k) (hd : ∀ k, Bl d.1 k → R k) (hi : i ≤ D.length) : ∀ x9 ∈ (D.insertIdx i d).map pk, ∀ k, Bl x9.1 k → R k := fun x hx => by
  rw [insIdx d hi, List.map_append, List.map_cons, List.mem_append, List.mem_cons] at hx
  rcases hx with hx | rfl | hx
  · obtain ⟨y, hy, rfl⟩ := List.mem_map.1 hx; exact kr _ (List.mem_map.2 ⟨y, List.mem_of_mem_take hy, rfl⟩)
  · exact hd
  · obtain ⟨y, hy, rfl⟩ := List.mem_map.1 hx; exact kr _ (List.mem_map.2 ⟨y, List.mem_of_mem_drop hy, rfl⟩)
theorem ks_sub {A B : List (DP V)} {Q : DK → Prop} (ks : ∀ x9 ∈ A.map pk, Q x9) (h : ∀ x ∈ B, x ∈ A) : ∀ x9 ∈ B.map pk, Q x9 := fun x hx => by
  obtain ⟨y, hy, rfl⟩ := List.mem_map.1 hx; exact ks _ (List.mem_map.2 ⟨y, h y hy, rfl⟩)
theorem ks_mem [Inhabited V] (h : i < D.length) : pk (D.getD i default) ∈ D.map pk := List.mem_map.2 ⟨_, getD_mem h, rfl⟩
theorem drop_key [Inhabited V] {j : Nat} (h : j < D.length) : pk ((D.drop j).getD 0 default) ∈ D.map pk := by
  have e : (D.drop j).getD 0 default = D.getD j default := by simp [List.getD_eq_getElem?_getD]
  rw [e]; exact ks_mem h
theorem leafW_lt (hp : p < n) (hv : ∀ j, Bl pv j → j < n) : ∀ j, leafW p pv j → j < n := fun j hj => hj.elim (fun e => e ▸ hp) (hv j)
theorem ks_set {d : DP V} {Q : DK → Prop} (ks : ∀ x9 ∈ D.map pk, Q x9) (hd : Q (pk d)) : ∀ x9 ∈ (D.set i d).map pk, Q x9 := fun x hx => by
  obtain ⟨y, hy, rfl⟩ := List.mem_map.1 hx
  rcases List.mem_or_eq_of_mem_set hy with h | h
  · exact ks _ (List.mem_map.2 ⟨y, h, rfl⟩)
  · subst h; exact hd
end
theorem set_flat9 {α : Type} {f : α → List Value} {sz j : Nat} {d x : α} {vs : List Value} : ∀ {l : List α} {i : Nat}, (∀ u, (f u).length = sz) → i < l.length → j + vs.length ≤ sz → f x = (f (l.getD i d)).take j ++ vs ++ (f (l.getD i d)).drop (j + vs.length) →
    (l.flatMap f).take (i * sz + j) ++ vs ++ (l.flatMap f).drop (i * sz + j + vs.length) = (l.set i x).flatMap f
  | [], _, _, h, _, _ => absurd h (Nat.not_lt_zero _)
  | a :: t, 0, hf, _, hj, hx => by
    have ha := hf a
    simp only [List.getD_cons_zero] at hx
    simp only [Nat.zero_mul, Nat.zero_add, List.flatMap_cons, List.set_cons_zero, hx]
    rw [List.take_append_of_le_length (by omega), List.drop_append_of_le_length (by omega)]
    simp [List.append_assoc]
  | a :: t, i + 1, hf, h, hj, hx => by
    have ha := hf a
    simp only [List.getD_cons_succ] at hx
    have ih := set_flat9 (l := t) (i := i) hf (by simpa using h) hj hx
    have e1 : (i + 1) * sz + j = (f a).length + (i * sz + j) := by rw [ha, Nat.add_mul]; omega
    simp only [List.flatMap_cons, List.set_cons_succ]
    rw [e1, List.take_length_add_append, Nat.add_assoc, List.drop_length_add_append, ← ih]
    simp [List.append_assoc]
end Go.Gx
