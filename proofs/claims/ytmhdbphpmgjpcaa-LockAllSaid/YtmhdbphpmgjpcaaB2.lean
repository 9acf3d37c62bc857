/- The sort, plainly: what stands in the library's plain layer, at tags; and the laws of its loop. -/
import Derived.Sort.AssemblyPlain
import Derived.Test.YtmhdbphpmgjpcaaProg
import Derived.KernelRfl
import Derived.Shelf.SlIterI.Nil
import Derived.Shelf.SortM.Plain
import Derived.Shelf.SortM.SortNone
import Derived.Lib.SlKeysI
import Derived.Maps.RangeRun
import Derived.Test.YtmhdbphpmgjpcaaB1
set_option linter.unusedVariables false
set_option linter.unusedSimpArgs false

namespace Go.Proofs.Ytmhdbphpmgjpcaa
open Go.Gx Go.Sort Go.RowKit
abbrev Ar := Array UInt16
def ltT (x y : UInt16) : Bool := decide (x.toNat < y.toNat)
theorem swoT : SWO ltT where
  irrefl := fun x => by simp [ltT]
  trans := fun x y z h1 h2 => by simp [ltT] at *; omega
  ntrans := fun x y z h1 h2 => by simp [ltT] at *; omega
/-! how many bits a number has -/
/-! the loops of the sort -/
abbrev PI (a b : Nat) (d d' : Ar) : Prop := PermIn a b d d'
theorem PI.sz {a b : Nat} {d d' : Ar} (h : PI a b d d') : d'.size = d.size := h.1
theorem PI.rfl' (a b : Nat) (d : Ar) : PI a b d d := permIn_refl d a b
theorem PI.tr {a b : Nat} {d d' d'' : Ar} (h : PI a b d d') (h' : PI a b d' d'') : PI a b d d'' := permIn_trans d d' d'' a b h h'
theorem PI.mono {a b a' b' : Nat} {d d' : Ar} (h : PI a b d d') (ha : a' ≤ a) (hb : b ≤ b') (hs : b' ≤ d.size) : PI a' b' d d' := permIn_mono d d' a b a' b' ha hb hs h
theorem PI.all {a b : Nat} {d d' : Ar} (h : PI a b d d') (hb : b ≤ d.size) (p : UInt16 → Prop) (hp : ∀ i, a ≤ i → i < b → p d[i]!) : ∀ i, a ≤ i → i < b → p d'[i]! := permIn_all d d' a b p hb h hp
theorem PI.swp {a b i j : Nat} {d : Ar} (h1 : a ≤ i) (h2 : i < b) (h3 : a ≤ j) (h4 : j < b) (hb : b ≤ d.size) : PI a b d (swp d i j) := swp_permIn d a b i j h1 h2 h3 h4 hb
theorem PI.below {a b : Nat} {d d' : Ar} (h : PI a b d d') (hb : b ≤ d.size) (hB : Go.Sort.Below ltT a b d) : Go.Sort.Below ltT a b d' := by
  rcases hB with hB | hB
  · exact .inl hB
  · by_cases ha : a = 0
    · exact .inl ha
    · refine .inr fun i h1 h2 => ?_
      have e : d'[a - 1]! = d[a - 1]! := h.2.1 (a - 1) (.inl (by omega))
      rw [e]
      exact h.all hb (fun x => ltT x d[a - 1]! = false) hB i h1 h2
def Left (a b x y : Nat) (d : Ar) : Prop := ∀ d', PI x y d d' → SortedIn ltT x y d' → SortedIn ltT a b d'
theorem Left.start (a b : Nat) (d : Ar) : Left a b a b d := fun _ _ h => h
theorem Left.perm {a b x y : Nat} {d d1 : Ar} (h : Left a b x y d) (hp : PI x y d d1) : Left a b x y d1 := fun d' h1 h2 => h d' (hp.tr h1) h2
theorem Left.equal {a b x y m : Nat} {d d1 : Ar} {pv : UInt16} (h : Left a b x y d) (hp : PI x y d d1) (hxm : x ≤ m) (hmy : m ≤ y) (hy : y ≤ d.size)
    (h1 : ∀ i, x ≤ i → i < m → ltT pv d1[i]! = false) (h1' : ∀ i, x ≤ i → i < y → ltT d1[i]! pv = false) (h2 : ∀ i, m ≤ i → i < y → ltT pv d1[i]! = true) : Left a b m y d1 := by
  intro d' hp' hs
  refine h d' (hp.tr (hp'.mono hxm (Nat.le_refl _) (by rw [hp.sz]; exact hy))) fun i j hi hij hj => ?_
  have hb1 : y ≤ d1.size := by rw [hp.sz]; exact hy
  by_cases him : m ≤ i
  · exact hs i j him hij hj
  · have ei : d'[i]! = d1[i]! := hp'.2.1 i (.inl (by omega))
    rw [ei]
    have g1 := h1 i hi (by omega)
    have g1' := h1' i hi (by omega)
    by_cases hjm : m ≤ j
    · have g2 := hp'.all hb1 (fun z => ltT pv z = true) h2 j hjm hj
      simp [ltT] at *; omega
    · have ej : d'[j]! = d1[j]! := hp'.2.1 j (.inl (by omega))
      rw [ej]
      have g2 := h1 j (by omega) (by omega)
      have g2' := h1' j (by omega) hj
      simp [ltT] at *; omega
theorem Left.right {a b x y m : Nat} {d d1 d2 : Ar} (h : Left a b x y d) (hp : PI x y d d1) (hxm : x ≤ m) (hmy : m < y) (hy : y ≤ d.size)
    (h1 : ∀ i, x ≤ i → i < m → ltT d1[i]! d1[m]! = true) (h2 : ∀ i, m < i → i < y → ltT d1[i]! d1[m]! = false) (hq : PI x m d1 d2) (hs : SortedIn ltT x m d2) : Left a b (m + 1) y d2 := by
  intro d' hp' hs'
  have hb1 : y ≤ d1.size := by rw [hp.sz]; exact hy
  have hb2 : y ≤ d2.size := by rw [hq.sz]; exact hb1
  have hq' := hq.mono (a' := x) (b' := y) (Nat.le_refl _) (by omega) hb1
  have e0 : d2[m]! = d1[m]! := hq.2.1 m (.inr (Nat.le_refl _))
  have e1 : d'[m]! = d1[m]! := (hp'.2.1 m (.inl (by omega))).trans e0
  have l1 : ∀ i, x ≤ i → i < m → ltT d'[i]! d1[m]! = true := fun i hi him => by
    have e : d'[i]! = d2[i]! := hp'.2.1 i (.inl (by omega))
    rw [e]; exact hq.all (by omega) (fun z => ltT z d1[m]! = true) h1 i hi him
  have l2 : ∀ i, m + 1 ≤ i → i < y → ltT d'[i]! d1[m]! = false := fun i hi hiy =>
    hp'.all hb2 (fun z => ltT z d1[m]! = false) (fun k hk hky => by
      have e : d2[k]! = d1[k]! := hq.2.1 k (.inr (by omega))
      rw [e]; exact h2 k (by omega) hky) i hi hiy
  refine h d' (hp.tr (hq'.tr (hp'.mono (by omega) (Nat.le_refl _) hb2))) fun i j hi hij hj => ?_
  rcases Nat.lt_trichotomy i m with him | him | him
  · rcases Nat.lt_trichotomy j m with hjm | hjm | hjm
    · have ei : d'[i]! = d2[i]! := hp'.2.1 i (.inl (by omega))
      have ej : d'[j]! = d2[j]! := hp'.2.1 j (.inl (by omega))
      rw [ei, ej]; exact hs i j hi hij hjm
    · subst hjm; rw [e1]; have := l1 i hi him; simp [ltT] at *; omega
    · have g1 := l1 i hi him; have g2 := l2 j (by omega) hj; simp [ltT] at *; omega
  · subst him; rw [e1]; exact l2 j (by omega) hj
  · exact hs' i j (by omega) hij hj
theorem Left.left {a b x y m : Nat} {d d1 d2 : Ar} (h : Left a b x y d) (hp : PI x y d d1) (hxm : x ≤ m) (hmy : m < y) (hy : y ≤ d.size)
    (h1 : ∀ i, x ≤ i → i < m → ltT d1[i]! d1[m]! = true) (h2 : ∀ i, m < i → i < y → ltT d1[i]! d1[m]! = false) (hq : PI (m + 1) y d1 d2) (hs : SortedIn ltT (m + 1) y d2) : Left a b x m d2 := by
  intro d' hp' hs'
  have hb1 : y ≤ d1.size := by rw [hp.sz]; exact hy
  have hb2 : y ≤ d2.size := by rw [hq.sz]; exact hb1
  have hq' := hq.mono (a' := x) (b' := y) (by omega) (Nat.le_refl _) hb1
  have e0 : d2[m]! = d1[m]! := hq.2.1 m (.inl (by omega))
  have e1 : d'[m]! = d1[m]! := (hp'.2.1 m (.inr (Nat.le_refl _))).trans e0
  have l1 : ∀ i, x ≤ i → i < m → ltT d'[i]! d1[m]! = true := fun i hi him =>
    hp'.all (by omega) (fun z => ltT z d1[m]! = true) (fun k hk hkm => by
      have e : d2[k]! = d1[k]! := hq.2.1 k (.inl (by omega))
      rw [e]; exact h1 k hk hkm) i hi him
  have l2 : ∀ i, m + 1 ≤ i → i < y → ltT d'[i]! d1[m]! = false := fun i hi hiy => by
    have e : d'[i]! = d2[i]! := hp'.2.1 i (.inr (by omega))
    rw [e]; exact hq.all hb1 (fun z => ltT z d1[m]! = false) (fun k hk hky => h2 k (by omega) hky) i hi hiy
  refine h d' (hp.tr (hq'.tr (hp'.mono (Nat.le_refl _) (by omega) hb2))) fun i j hi hij hj => ?_
  rcases Nat.lt_trichotomy i m with him | him | him
  · rcases Nat.lt_trichotomy j m with hjm | hjm | hjm
    · exact hs' i j hi hij hjm
    · subst hjm; rw [e1]; have := l1 i hi him; simp [ltT] at *; omega
    · have g1 := l1 i hi him; have g2 := l2 j (by omega) hj; simp [ltT] at *; omega
  · subst him; rw [e1]; exact l2 j (by omega) hj
  · have ei : d'[i]! = d2[i]! := hp'.2.1 i (.inr (by omega))
    have ej : d'[j]! = d2[j]! := hp'.2.1 j (.inr (by omega))
    rw [ei, ej]; exact hs i j (by omega) hij hj
end Go.Proofs.Ytmhdbphpmgjpcaa

namespace Go.Proofs.Ytmhdbphpmgjpcaa
open Go.Gx Go.Sort Go.RowKit
def Inv (a b x y : Nat) (d0 d : Ar) : Prop := a ≤ x ∧ x ≤ y ∧ y ≤ b ∧ b ≤ d0.size ∧ PI a b d0 d ∧ Go.Sort.Below ltT x y d ∧ Left a b x y d
theorem Inv.start {a b : Nat} {d : Ar} (h : Go.Sort.Below ltT a b d) (hab : a ≤ b) (hb : b ≤ d.size) : Inv a b a b d d := ⟨Nat.le_refl _, hab, Nat.le_refl _, hb, PI.rfl' _ _ _, h, Left.start _ _ _⟩
theorem Inv.rng {a b x y : Nat} {d0 d : Ar} (h : Inv a b x y d0 d) : a ≤ x ∧ x ≤ y ∧ y ≤ b := ⟨h.1, h.2.1, h.2.2.1⟩
theorem Inv.sz {a b x y : Nat} {d0 d : Ar} (h : Inv a b x y d0 d) : d.size = d0.size := h.2.2.2.2.1.sz
theorem Inv.hi {a b x y : Nat} {d0 d : Ar} (h : Inv a b x y d0 d) : y ≤ d.size := by have := h.sz; have := h.2.2.1; have := h.2.2.2.1; omega
theorem Inv.below {a b x y : Nat} {d0 d : Ar} (h : Inv a b x y d0 d) : Go.Sort.Below ltT x y d := h.2.2.2.2.2.1
theorem Inv.perm {a b x y : Nat} {d0 d d1 : Ar} (h : Inv a b x y d0 d) (hp : PI x y d d1) : Inv a b x y d0 d1 := by
  have hi := h.hi; have hs := h.sz
  obtain ⟨h1, h2, h3, h4, h5, h6, h7⟩ := h
  exact ⟨h1, h2, h3, h4, h5.tr (hp.mono h1 h3 (by omega)), hp.below hi h6, h7.perm hp⟩
theorem Inv.done {a b x y : Nat} {d0 d d1 : Ar} (h : Inv a b x y d0 d) (hp : PI x y d d1) (hs : SortedIn ltT x y d1) : PI a b d0 d1 ∧ SortedIn ltT a b d1 :=
  ⟨(h.perm hp).2.2.2.2.1, h.2.2.2.2.2.2 d1 hp hs⟩
theorem Inv.equal {a b x y pv : Nat} {d0 d : Ar} (h : Inv a b x y d0 d) (hx : x ≤ pv) (hy : pv < y) (h0 : 0 < x) (hl : ltT d[x - 1]! d[pv]! = false) :
    x < (partitionEqual ltT d x y pv).1 ∧ Inv a b (partitionEqual ltT d x y pv).1 y d0 (partitionEqual ltT d x y pv).2 := by
  have hi := h.hi; have hs := h.sz
  obtain ⟨h1, h2, h3, h4, h5, h6, h7⟩ := h
  have hall : ∀ i, x ≤ i → i < y → ltT d[i]! d[pv]! = false := fun i hi1 hi2 => by
    have g := (h6.resolve_left (by omega)) i hi1 hi2
    simp [ltT] at *; omega
  obtain ⟨g1, g2, g3, g4, g5⟩ := partitionEqual_holds ltT swoT d x y pv hx hy hi hall
  have g3 : PI x y d (partitionEqual ltT d x y pv).2 := g3
  have hall' := PI.all g3 hi (fun z => ltT z d[pv]! = false) hall
  generalize partitionEqual ltT d x y pv = q at *
  refine ⟨g1, by omega, g2, h3, h4, h5.tr (g3.mono h1 h3 (by omega)), .inr fun i hi1 hi2 => ?_, Left.equal h7 g3 (by omega) g2 hi g4 hall' g5⟩
  have k1 := g5 i hi1 hi2; have k2 := g4 (q.1 - 1) (by omega) (by omega)
  simp [ltT] at *; omega
theorem Inv.part {a b x y pv : Nat} {d0 d : Ar} (h : Inv a b x y d0 d) (hx : x ≤ pv) (hy : pv < y) :
    x ≤ (partition ltT d x y pv).1 ∧ (partition ltT d x y pv).1 < y ∧ (partition ltT d x y pv).2.2.size = d.size ∧ Go.Sort.Below ltT x (partition ltT d x y pv).1 (partition ltT d x y pv).2.2 ∧ Go.Sort.Below ltT ((partition ltT d x y pv).1 + 1) y (partition ltT d x y pv).2.2 ∧
    (∀ d2, PI x (partition ltT d x y pv).1 (partition ltT d x y pv).2.2 d2 → SortedIn ltT x (partition ltT d x y pv).1 d2 → Inv a b ((partition ltT d x y pv).1 + 1) y d0 d2) ∧
    (∀ d2, PI ((partition ltT d x y pv).1 + 1) y (partition ltT d x y pv).2.2 d2 → SortedIn ltT ((partition ltT d x y pv).1 + 1) y d2 → Inv a b x (partition ltT d x y pv).1 d0 d2) := by
  have hi := h.hi; have hs := h.sz
  obtain ⟨g1, g2, g3, g4, g5⟩ := partition_holds ltT swoT d x y pv hx hy hi
  have g3 : PI x y d (partition ltT d x y pv).2.2 := g3
  have hp := h.perm g3
  obtain ⟨h1, h2, h3, h4, h5, h6, h7⟩ := h
  generalize partition ltT d x y pv = q at *
  have hsq := g3.sz
  refine ⟨g1, g2, hsq, ?_, ?_, ?_, ?_⟩
  · rcases hp.below with hB | hB
    · exact .inl hB
    · exact .inr fun i hi1 hi2 => hB i hi1 (by omega)
  · exact .inr fun i hi1 hi2 => by rw [Nat.add_sub_cancel]; exact g5 i (by omega) hi2
  · intro d2 hq hso
    refine ⟨by omega, by omega, h3, h4, hp.2.2.2.2.1.tr (hq.mono h1 (by omega) (by omega)), ?_, Left.right h7 g3 g1 g2 hi g4 g5 hq hso⟩
    refine .inr fun i hi1 hi2 => ?_
    have e0 : d2[q.1]! = q.2.2[q.1]! := hq.2.1 q.1 (.inr (Nat.le_refl _))
    have e1 : d2[i]! = q.2.2[i]! := hq.2.1 i (.inr (by omega))
    rw [Nat.add_sub_cancel, e0, e1]; exact g5 i (by omega) hi2
  · intro d2 hq hso
    refine ⟨h1, g1, by omega, h4, hp.2.2.2.2.1.tr (hq.mono (by omega) h3 (by omega)), ?_, Left.left h7 g3 g1 g2 hi g4 g5 hq hso⟩
    rcases hp.below with hB | hB
    · exact .inl hB
    · by_cases hx0 : x = 0
      · exact .inl hx0
      · refine .inr fun i hi1 hi2 => ?_
        have e0 : d2[x - 1]! = q.2.2[x - 1]! := hq.2.1 (x - 1) (.inl (by omega))
        have e1 : d2[i]! = q.2.2[i]! := hq.2.1 i (.inl (by omega))
        rw [e0, e1]; exact hB i hi1 (by omega)
theorem Inv.lt {a b x y : Nat} {d0 d : Ar} (h : Inv a b x y d0 d) : PI a b d0 d := h.2.2.2.2.1
theorem Inv.ins {a b x y : Nat} {d0 d : Ar} (h : Inv a b x y d0 d) : PI a b d0 (insertionSort ltT d x y) ∧ SortedIn ltT a b (insertionSort ltT d x y) :=
  have g := insertionSort_holds swoT d x y h.2.1 h.hi
  h.done g.1 g.2
theorem Inv.heap {a b x y : Nat} {d0 d : Ar} (h : Inv a b x y d0 d) : PI a b d0 (heapSort ltT d x y) ∧ SortedIn ltT a b (heapSort ltT d x y) :=
  have g := heapSort_holds swoT d x y h.2.1 h.hi
  h.done g.1 g.2
end Go.Proofs.Ytmhdbphpmgjpcaa

namespace Go.Proofs.Ytmhdbphpmgjpcaa
open Go.Gx Go.Sort Go.RowKit
def dd : List UInt16 → List UInt16
  | [] => []
  | [x] => [x]
  | x :: y :: r => if x = y then dd (y :: r) else x :: dd (y :: r)
theorem u16_eq {x y : UInt16} (h : (x.toNat : Int) = (y.toNat : Int)) : x = y := UInt16.toNat_inj.1 (by omega)
end Go.Proofs.Ytmhdbphpmgjpcaa

namespace Go.Proofs.Ytmhdbphpmgjpcaa
open Go.Gx Go.Sort Go.RowKit
end Go.Proofs.Ytmhdbphpmgjpcaa

namespace Go.Proofs.Ytmhdbphpmgjpcaa
open Go.Gx Go.RowKit
def inL (x : UInt16) (m : Lb) : Bool := decide (x ∈ m)
def ninL (x : UInt16) (m : Lb) : Bool := !inL x m
def minusL (l m : Lb) : Lb := l.filter (fun x => ninL x m)
def flowsL (l m : Lb) : Bool := l.all (fun x => inL x m)
theorem in_t {x : UInt16} {m : Lb} {i : Nat} (h : i < m.length) (e : (m.getD i 0) = x) : inL x m = true := by
  subst e; unfold inL; simp [h]
theorem in_f {x : UInt16} {m : Lb} {i : Nat} (hi : m.length ≤ i) (h : ∀ j, j < i → m.getD j 0 ≠ x) : inL x m = false := by
  unfold inL
  rw [decide_eq_false_iff_not]
  intro hm
  obtain ⟨j, hj, e⟩ := List.getElem_of_mem hm
  exact h j (by omega) (by simp [hj, e])
theorem no_step {x : UInt16} {m : Lb} {i : Nat} (h : ∀ j, j < i → m.getD j 0 ≠ x) (e : ¬ m.getD i 0 = x) : ∀ j, j < i + 1 → m.getD j 0 ≠ x := fun j hj => by
  by_cases q : j = i
  · subst q; exact e
  · exact h j (by omega)
theorem lb_take {l : Lb} {i : Nat} (h : i < l.length) : l.take (i + 1) = l.take i ++ [l.getD i 0] := by
  rw [List.take_add_one, List.getElem?_eq_getElem h]; simp [h]
theorem filter_t {l : Lb} {i : Nat} {p : UInt16 → Bool} (h : i < l.length) (hp : p (l.getD i 0) = true) : (l.take (i + 1)).filter p = (l.take i).filter p ++ [l.getD i 0] := by
  rw [lb_take h, List.filter_append, List.filter_cons, if_pos hp]; rfl
theorem filter_f {l : Lb} {i : Nat} {p : UInt16 → Bool} (h : i < l.length) (hp : p (l.getD i 0) = false) : (l.take (i + 1)).filter p = (l.take i).filter p := by
  rw [lb_take h, List.filter_append, List.filter_cons, if_neg (by rw [hp]; decide), List.filter_nil, List.append_nil]
theorem filter_le {l : Lb} {i : Nat} {p : UInt16 → Bool} : ((l.take i).filter p).length ≤ i := Nat.le_trans (List.length_filter_le _ _) (by simp; omega)
theorem all_f {l : Lb} {i : Nat} {p : UInt16 → Bool} (h : i < l.length) (hp : p (l.getD i 0) = false) : l.all p = false := by
  rw [List.all_eq_false]
  exact ⟨l.getD i 0, by simp [h], by simpa using hp⟩
theorem all_step {l : Lb} {i : Nat} {p : UInt16 → Bool} (h : i < l.length) (ha : (l.take i).all p = true) (hp : p (l.getD i 0) = true) : (l.take (i + 1)).all p = true := by
  rw [lb_take h, List.all_append, ha]; simp only [List.all_cons, List.all_nil, hp]; rfl
theorem all_end {l : Lb} {i : Nat} {p : UInt16 → Bool} (h : l.length ≤ i) (ha : (l.take i).all p = true) : l.all p = true := by
  rwa [List.take_of_length_le h] at ha
theorem flows_minus (l m : Lb) : flowsL l m = decide ((minusL l m).length = 0) := by
  unfold flowsL minusL ninL
  rw [Bool.eq_iff_iff, decide_eq_true_iff, List.length_eq_zero_iff, List.filter_eq_nil_iff]
  simp
theorem take_all (l : Lb) {i : Nat} (h : l.length ≤ i) : l.take i = l := List.take_of_length_le h
end Go.Proofs.Ytmhdbphpmgjpcaa

namespace Go.Proofs.Ytmhdbphpmgjpcaa
open Go.Gx Go.RowKit
theorem cmpG_gt {a b : Lb} {i : Nat} (ha : i < a.length) (hb : b.length ≤ i) : cmpG (a.drop i) (b.drop i) = 1 := by
  rw [List.drop_eq_getElem_cons ha, List.drop_of_length_le hb]; rfl
theorem cmpG_lt {a b : Lb} {i : Nat} (ha : a.length ≤ i) (hb : i < b.length) : cmpG (a.drop i) (b.drop i) = -1 := by
  rw [List.drop_eq_getElem_cons hb, List.drop_of_length_le ha]; rfl
theorem cmpL_or {a b : Lb} : (if cmpI (a.length : Int) (b.length : Int) = 0 then cmpG a b else cmpI (a.length : Int) (b.length : Int)) = cmpL a b := by
  unfold cmpI cmpL; (repeat' split) <;> omega
end Go.Proofs.Ytmhdbphpmgjpcaa

namespace Go.Gx
structure KS where
  label : List UInt16
  owns : List UInt16
  texts : List (List UInt8)
instance : Inhabited KS := ⟨⟨[], [], []⟩⟩
structure KC where
  lab : Value
  own : Value
  p : Nat
  F : Nat → Prop
instance : Inhabited KC := ⟨⟨.slice none 0 0, .slice none 0 0, 0, fun _ => False⟩⟩
def cellsK (c : KC) : List Value := [c.lab, c.own, ptr c.p 0]
abbrev PostS := PostR sv 126 9
def SessR (w : World) (base : Nat) (s : KS) (c : KC) : Prop :=
  Own w base 46 1 c.lab s.label.length (s.label.map u16v) ∧ Own w base 46 1 c.own s.owns.length (s.owns.map u16v) ∧ PostS w base c.p 16 s.texts c.F
def PartK (c : KC) (x : Nat) : Prop := Bl c.lab x ∨ Bl c.own x ∨ c.F x
def KernR (w : World) (base k : Nat) (S : List KS) (M : List (List UInt8 × Int)) (F : Nat → Prop) : Prop :=
  ∃ (lv : Value) (m : Nat) (C : List KC), base ≤ k ∧ base ≤ m ∧ C.length = S.length ∧ Bx w k 134 [lv, .map (some m)] ∧ Own w base 137 3 lv S.length (C.flatMap cellsK) ∧ MapC sv (Value.int .u64) w m M ∧
    (∀ i, i < S.length → SessR w base (S.getD i default) (C.getD i default)) ∧ (∀ i j, i < S.length → j < S.length → i ≠ j → Dj (C.getD i default).F (C.getD j default).F) ∧
    (∀ x, F x ↔ x = k ∨ x = m ∨ Bl lv x ∨ ∃ i, i < S.length ∧ PartK (C.getD i default) x)
section
variable {w w' : World} {base k m b t e sz n p cap : Nat} {S : List KS} {M : List (List UInt8 × Int)} {F G : Nat → Prop} {cs : List Value} {v lv : Value} {L : List (List UInt8)}
/-! a post's blocks are none of another kind -/
theorem PostR.notBx {α : Type} {f : α → Value} {tp ep : Nat} {L : List α} (h : PostR f tp ep w base p cap L F) (B : Bx w b t cs) (h1 : t ≠ tp) (h2 : t ≠ ep) : ¬ F b := by
  obtain ⟨c, hv, H, B', _, _, _, _, _, _, hx, O, C, hF⟩ := h
  intro hf
  rcases (hF b).1 hf with rfl | rfl | hf
  · have := B.symm.trans hx; simp at this; exact h1 this.2
  · exact B.notCh C rfl
  · exact O.neB B h2 hf
theorem PostR.notOwn {α : Type} {f : α → Value} {tp ep : Nat} {L : List α} {base2 : Nat} (h : PostR f tp ep w base p cap L F) (O2 : Own w base2 e sz v n cs) (h1 : e ≠ tp) (h2 : e ≠ ep) : Dj (Bl v) F := by
  obtain ⟨c, hv, H, B', _, _, _, _, _, _, hx, O, C, hF⟩ := h
  intro x hx2 hf
  rcases (hF x).1 hf with rfl | rfl | hf
  · exact O2.neB hx (fun e => h1 e.symm) hx2
  · exact O2.notCh C hx2
  · rcases O2.2 with ⟨rfl, _⟩ | ⟨g, off, cap, cur, fr, rfl, hb, hg, _⟩
    · cases hx2
    · simp only [Bl, Value.ownBlock, Option.some.injEq] at hx2
      subst hx2
      rcases O.2 with ⟨rfl, _⟩ | ⟨g', off', cap', cur', fr', rfl, hb', hg', _⟩
      · cases hf
      · simp only [Value.ownBlock, Option.some.injEq] at hf
        subst hf
        have := hg.symm.trans hg'; simp at this; exact h2 this.2.1
theorem PostR.notMap {α K V : Type} {f : α → Value} {kv : K → Value} {vv : V → Value} {es : List (K × V)} {tp ep : Nat} {L : List α} (h : PostR f tp ep w base p cap L F) (M : MapC kv vv w m es) : ¬ F m := by
  obtain ⟨c, hv, H, B', _, _, _, _, _, _, hx, O, C, hF⟩ := h
  intro hf
  rcases (hF m).1 hf with rfl | rfl | hf
  · exact hx.notMap M rfl
  · obtain ⟨arr, cl, hm, _⟩ := M; obtain ⟨s, r, hc⟩ := C; rw [hm] at hc; simp at hc
  · exact O.notMap M hf
theorem KernR.lt (h : KernR w base k S M F) : ∀ x, F x → base ≤ x ∧ x < w.heap.size := by
  obtain ⟨lv, m, C, hk, hm, hC, hx, O, hM, hS, hD, hF⟩ := h
  intro x hf
  rcases (hF x).1 hf with rfl | rfl | hf | ⟨i, hi, hf⟩
  · exact ⟨hk, hx.lt⟩
  · exact ⟨hm, hM.lt⟩
  · exact O.lt x hf
  · obtain ⟨h1, h2, h3⟩ := hS i hi
    rcases hf with hf | hf | hf
    · exact h1.lt x hf
    · exact h2.lt x hf
    · exact h3.lt x hf
theorem SessR.keepG {s : KS} {c : KC} (h : SessR w base s c) (E : Gr w w' G) (hd : ∀ x, PartK c x → ¬ G x) : SessR w' base s c :=
  ⟨h.1.keepG E fun x hx => hd x (.inl hx), h.2.1.keepG E fun x hx => hd x (.inr (.inl hx)), h.2.2.keepG E fun x hx => hd x (.inr (.inr hx))⟩
theorem KernR.keepG (h : KernR w base k S M F) (E : Gr w w' G) (hd : Dj F G) : KernR w' base k S M F := by
  obtain ⟨lv, m, C, hk, hm, hC, hx, O, hM, hS, hD, hF⟩ := h
  exact ⟨lv, m, C, hk, hm, hC, hx.keepG E (hd k ((hF k).2 (.inl rfl))), O.keepG E (fun x hx => hd x ((hF x).2 (.inr (.inr (.inl hx))))), hM.keepG E (hd m ((hF m).2 (.inr (.inl rfl)))),
    fun i hi => (hS i hi).keepG E fun x hx => hd x ((hF x).2 (.inr (.inr (.inr ⟨i, hi, hx⟩)))), hD, hF⟩
theorem KernR.kz (h : KernR w base k S M F) (E9 : w.grownBy w' none) : KernR w' base k S M F := h.keepG (Gr.of0 E9 NoB) (fun _ _ h => h)
theorem KernR.mono {base' : Nat} (h : KernR w base k S M F) (hb : base' ≤ base) : KernR w base' k S M F := by
  obtain ⟨lv, m, C, hk, hm, hC, hx, O, hM, hS, hD, hF⟩ := h
  exact ⟨lv, m, C, Nat.le_trans hb hk, Nat.le_trans hb hm, hC, hx, O.mono hb, hM, fun i hi => ⟨(hS i hi).1.mono hb, (hS i hi).2.1.mono hb, (hS i hi).2.2.mono hb⟩, hD, hF⟩
/-! what is there behind a turn of one session's post -/
theorem getD_set {α : Type} {l : List α} {i j : Nat} {x d : α} (hi : i < l.length) : (l.set i x).getD j d = if j = i then x else l.getD j d := by
  by_cases h : j = i
  · subst h; rw [if_pos rfl]; simp [List.getD_eq_getElem?_getD, hi]
  · rw [if_neg h]; simp [List.getD_eq_getElem?_getD, List.getElem?_set_ne (fun e => h e.symm)]
end
/-! elements of so many cells -/
theorem el_flat {α : Type} {f : α → List Value} {sz : Nat} {l : List α} {d : α} {e : Int} {i : Nat} (hp : 0 < sz) (hf : ∀ u ∈ l, (f u).length = sz) (he : e = (i : Int)) (h : i < l.length) : ∀ j u, (f (l.getD i d))[j]? = some u → (l.flatMap f)[e.toNat * sz + j]? = some u := by
  intro j u hu
  subst he
  have hm : l.getD i d ∈ l := getD_mem h
  have hj : j < sz := by have := (List.getElem?_eq_some_iff.1 hu).1; rwa [hf _ hm] at this
  rw [flat_get hp l hf, Int.toNat_natCast, Nat.mul_comm, Nat.mul_add_div hp, Nat.mul_add_mod, Nat.div_eq_of_lt hj, Nat.mod_eq_of_lt hj, Nat.add_zero]
  have : l[i]? = some (l.getD i d) := by simp [List.getD_eq_getElem?_getD, h]
  rw [this]; exact hu
theorem set_flat {α : Type} {f : α → List Value} {sz j : Nat} {d x : α} {vs : List Value} : ∀ {l : List α} {i : Nat}, (∀ u ∈ l, (f u).length = sz) → i < l.length → j + vs.length ≤ sz → f x = (f (l.getD i d)).take j ++ vs ++ (f (l.getD i d)).drop (j + vs.length) →
    (l.flatMap f).take (i * sz + j) ++ vs ++ (l.flatMap f).drop (i * sz + j + vs.length) = (l.set i x).flatMap f
  | [], _, _, h, _, _ => absurd h (Nat.not_lt_zero _)
  | a :: t, 0, hf, _, hj, hx => by
    have ha := hf a (by simp)
    simp only [List.getD_cons_zero] at hx
    simp only [Nat.zero_mul, Nat.zero_add, List.flatMap_cons, List.set_cons_zero, hx]
    rw [List.take_append_of_le_length (by omega), List.drop_append_of_le_length (by omega)]
    simp [List.append_assoc]
  | a :: t, i + 1, hf, h, hj, hx => by
    have ha := hf a (by simp)
    simp only [List.getD_cons_succ] at hx
    have ih := set_flat (l := t) (i := i) (fun u hu => hf u (by simp [hu])) (by simpa using h) hj hx
    have e1 : (i + 1) * sz + j = (f a).length + (i * sz + j) := by rw [ha, Nat.add_mul]; omega
    simp only [List.flatMap_cons, List.set_cons_succ]
    rw [e1, List.take_length_add_append, Nat.add_assoc, List.drop_length_add_append, ← ih]
    simp [List.append_assoc]
/-! configs: labels and what is owned, as they are told -/
abbrev LBV := Value × List UInt16
def D2 : LBV := (.slice none 0 0, [])
/-! sessions' parts, all together -/
def SessAll (w : World) (base : Nat) (S : List KS) (C : List KC) (F : Nat → Prop) : Prop :=
  C.length = S.length ∧ (∀ i, i < S.length → SessR w base (S.getD i default) (C.getD i default)) ∧ (∀ i j, i < S.length → j < S.length → i ≠ j → Dj (C.getD i default).F (C.getD j default).F) ∧ (∀ x, F x ↔ ∃ i, i < S.length ∧ PartK (C.getD i default) x)
section
variable {w w' : World} {base k m : Nat} {S : List KS} {C : List KC} {M : List (List UInt8 × Int)} {F G Fp : Nat → Prop} {lv la ow : Value} {l o : List UInt16} {T : List (List UInt8)} {p : Nat}
theorem SessR.part {s : KS} {c : KC} (h : SessR w base s c) : ∀ x, PartK c x → base ≤ x ∧ x < w.heap.size := fun x hx => by
  rcases hx with hx | hx | hx
  · exact h.1.lt x hx
  · exact h.2.1.lt x hx
  · exact h.2.2.lt x hx
theorem SessAll.lt (h : SessAll w base S C F) : ∀ x, F x → base ≤ x ∧ x < w.heap.size := fun x hx => by
  obtain ⟨i, hi, hx⟩ := (h.2.2.2 x).1 hx
  exact (h.2.1 i hi).part x hx
theorem SessAll.keepG (h : SessAll w base S C F) (E : Gr w w' G) (hd : Dj F G) : SessAll w' base S C F :=
  ⟨h.1, fun i hi => (h.2.1 i hi).keepG E fun x hx => hd x ((h.2.2.2 x).2 ⟨i, hi, hx⟩), h.2.2.1, h.2.2.2⟩
theorem SessAll.kz (h : SessAll w base S C F) (E9 : w.grownBy w' none) : SessAll w' base S C F := h.keepG (Gr.of0 E9 NoB) (fun _ _ h => h)
theorem SessAll.nil (w : World) (base : Nat) : SessAll w base [] [] NoB := ⟨rfl, fun _ h => absurd h (Nat.not_lt_zero _), fun _ _ h => absurd h (Nat.not_lt_zero _), fun x => ⟨fun h => h.elim, fun ⟨_, h, _⟩ => absurd h (Nat.not_lt_zero _)⟩⟩
theorem getD_snoc_lt {α : Type} {A : List α} {x d : α} {i : Nat} (h : i < A.length) : (A ++ [x]).getD i d = A.getD i d := by simp [List.getD_eq_getElem?_getD, List.getElem?_append_left h]
theorem getD_snoc_eq {α : Type} {A : List α} {x d : α} : (A ++ [x]).getD A.length d = x := by simp [List.getD_eq_getElem?_getD]
theorem SessAll.snoc (h : SessAll w base S C F) (hL : Own w base 46 1 la l.length (l.map u16v)) (hW : Own w base 46 1 ow o.length (o.map u16v)) (hQ : PostS w base p 16 T Fp) (hd : Dj F Fp) :
    SessAll w base (S ++ [⟨l, o, T⟩]) (C ++ [⟨la, ow, p, Fp⟩]) (fun x => F x ∨ Bl la x ∨ Bl ow x ∨ Fp x) := by
  obtain ⟨h1, h2, h3, h4⟩ := h
  have hlast : ∀ {i}, i < (S ++ [(⟨l, o, T⟩ : KS)]).length → ¬ i < S.length → i = S.length := fun {i} a b => by simp at a; omega
  have eC : (C ++ [(⟨la, ow, p, Fp⟩ : KC)]).getD S.length default = ⟨la, ow, p, Fp⟩ := by rw [← h1]; exact getD_snoc_eq
  have hdj : ∀ i, i < S.length → Dj (C.getD i default).F Fp := fun i hi x hx => hd x ((h4 x).2 ⟨i, hi, .inr (.inr hx)⟩)
  refine ⟨by simp [h1], fun i hi => ?_, fun i j hi hj hne => ?_, fun x => ⟨fun hx => ?_, fun hx => ?_⟩⟩
  · by_cases hs : i < S.length
    · rw [getD_snoc_lt hs, getD_snoc_lt (by rw [h1]; exact hs)]; exact h2 i hs
    · obtain rfl := hlast hi hs
      rw [getD_snoc_eq, eC]; exact ⟨hL, hW, hQ⟩
  · by_cases hs : i < S.length <;> by_cases hs2 : j < S.length
    · rw [getD_snoc_lt (by rw [h1]; exact hs), getD_snoc_lt (by rw [h1]; exact hs2)]; exact h3 i j hs hs2 hne
    · obtain rfl := hlast hj hs2
      rw [getD_snoc_lt (by rw [h1]; exact hs), eC]; exact hdj i hs
    · obtain rfl := hlast hi hs
      rw [eC, getD_snoc_lt (by rw [h1]; exact hs2)]; exact (hdj j hs2).symm
    · exact absurd ((hlast hi hs).trans (hlast hj hs2).symm) hne
  · rcases hx with hx | hx
    · obtain ⟨i, hi, hx⟩ := (h4 x).1 hx
      exact ⟨i, by simp; omega, by rw [getD_snoc_lt (by rw [h1]; exact hi)]; exact hx⟩
    · exact ⟨S.length, by simp, by rw [eC]; exact hx⟩
  · obtain ⟨i, hi, hx⟩ := hx
    by_cases hs : i < S.length
    · rw [getD_snoc_lt (by rw [h1]; exact hs)] at hx; exact .inl ((h4 x).2 ⟨i, hs, hx⟩)
    · obtain rfl := hlast hi hs
      rw [eC] at hx; exact .inr hx
theorem Own.notOwn {e sz n base2 e2 sz2 n2 : Nat} {v v2 : Value} {cs cs2 : List Value} (O : Own w base e sz v n cs) (O2 : Own w base2 e2 sz2 v2 n2 cs2) (h : e ≠ e2) : DJ v v2 := by
  intro x hx hf
  rcases O.2 with ⟨rfl, _⟩ | ⟨g, off, cap, cur, fr, rfl, hb, hg, _⟩
  · cases hx
  · simp only [Value.ownBlock, Option.some.injEq] at hx
    subst hx
    rcases O2.2 with ⟨rfl, _⟩ | ⟨g', off', cap', cur', fr', rfl, hb', hg', _⟩
    · cases hf
    · simp only [Value.ownBlock, Option.some.injEq] at hf
      subst hf
      have := hg.symm.trans hg'; simp at this; exact h this.2.1
theorem SessAll.notBx {b t : Nat} {cs : List Value} (h : SessAll w base S C F) (B : Bx w b t cs) (h1 : t ≠ 126) (h2 : t ≠ 9) (h3 : t ≠ 46) : ¬ F b := fun hf => by
  obtain ⟨i, hi, hf⟩ := (h.2.2.2 b).1 hf
  obtain ⟨a1, a2, a3⟩ := h.2.1 i hi
  rcases hf with hf | hf | hf
  · exact a1.neB B h3 hf
  · exact a2.neB B h3 hf
  · exact a3.notBx B h1 h2 hf
theorem SessAll.notOwn {e sz n base2 : Nat} {v : Value} {cs : List Value} (h : SessAll w base S C F) (O : Own w base2 e sz v n cs) (h1 : e ≠ 126) (h2 : e ≠ 9) (h3 : e ≠ 46) : Dj (Bl v) F := fun x hx hf => by
  obtain ⟨i, hi, hf⟩ := (h.2.2.2 x).1 hf
  obtain ⟨a1, a2, a3⟩ := h.2.1 i hi
  rcases hf with hf | hf | hf
  · exact O.notOwn a1 h3 x hx hf
  · exact O.notOwn a2 h3 x hx hf
  · exact a3.notOwn O h1 h2 x hx hf
theorem SessAll.notMap {K V : Type} {kv : K → Value} {vv : V → Value} {es : List (K × V)} (h : SessAll w base S C F) (M : MapC kv vv w m es) : ¬ F m := fun hf => by
  obtain ⟨i, hi, hf⟩ := (h.2.2.2 m).1 hf
  obtain ⟨a1, a2, a3⟩ := h.2.1 i hi
  rcases hf with hf | hf | hf
  · exact a1.notMap M hf
  · exact a2.notMap M hf
  · exact a3.notMap M hf
theorem KernR.all (h : KernR w base k S M F) : ∃ lv m C F0, base ≤ k ∧ base ≤ m ∧ Bx w k 134 [lv, .map (some m)] ∧ Own w base 137 3 lv S.length (C.flatMap cellsK) ∧ MapC sv (Value.int .u64) w m M ∧ SessAll w base S C F0 ∧ ∀ x, F x ↔ x = k ∨ x = m ∨ Bl lv x ∨ F0 x := by
  obtain ⟨lv, m, C, hk, hm, hC, hx, O, hM, hS, hD, hF⟩ := h
  exact ⟨lv, m, C, _, hk, hm, hx, O, hM, ⟨hC, hS, hD, fun x => Iff.rfl⟩, hF⟩
end
end Go.Gx
namespace Go.Proofs.Ytmhdbphpmgjpcaa
open Go.Gx
end Go.Proofs.Ytmhdbphpmgjpcaa

namespace Go.Gx
structure TX where
  label : List UInt16
  stamp : Int
  reads : List (List UInt8 × List UInt16)
  writes : List (List UInt8)
  doomed : Bool
instance : Inhabited TX := ⟨⟨[], 0, [], [], false⟩⟩
structure RD where
  tab : List UInt8
  la : Value
  lab : List UInt16
instance : Inhabited RD := ⟨⟨[], .slice none 0 0, []⟩⟩
def cellsRd (r : RD) : List Value := [.string (bs r.tab), r.la]
def rdL (r : RD) : Value × List UInt16 := (r.la, r.lab)
def rOf (r : RD) : List UInt8 × List UInt16 := (r.tab, r.lab)
structure TC where
  p : Nat
  la : Value
  rv : Value
  wv : Value
  D : List RD
instance : Inhabited TC := ⟨⟨0, .slice none 0 0, .slice none 0 0, .slice none 0 0, []⟩⟩
def pv (p : Nat) : Value := ptr p 0
def TxAt (w : World) (base : Nat) (t : TX) (c : TC) : Prop :=
  base ≤ c.p ∧ Bx w c.p 164 [c.la, .int .u64 t.stamp, c.rv, c.wv, .bool t.doomed] ∧ Own w base 46 1 c.la t.label.length (t.label.map u16v) ∧ Own w base 169 2 c.rv c.D.length (c.D.flatMap cellsRd) ∧
    (∀ x9 ∈ c.D.map rdL, Own w base 46 1 x9.1 x9.2.length (x9.2.map u16v)) ∧ Own w base 9 1 c.wv t.writes.length (t.writes.map sv) ∧ c.D.map rOf = t.reads
def PartT (c : TC) (x : Nat) : Prop := x = c.p ∨ Bl c.la x ∨ Bl c.rv x ∨ Bl c.wv x ∨ ∃ r ∈ c.D, Bl r.la x
abbrev TM := List (Int × TX)
def esOf (M : TM) (C : List TC) : List (Int × Nat) := List.zipWith (fun a c => (a.1, c.p)) M C
def LkAll (w : World) (base : Nat) (M : TM) (C : List TC) (F : Nat → Prop) : Prop :=
  C.length = M.length ∧ (∀ i, i < M.length → TxAt w base (M.getD i default).2 (C.getD i default)) ∧ (∀ i j, i < M.length → j < M.length → i ≠ j → Dj (PartT (C.getD i default)) (PartT (C.getD j default))) ∧ (∀ x, F x ↔ ∃ i, i < M.length ∧ PartT (C.getD i default) x)
def MapN (w : World) (base : Nat) (mv : Value) (es : List (Int × Nat)) : Prop := (mv = .map none ∧ es = []) ∨ ∃ m, mv = .map (some m) ∧ base ≤ m ∧ MapC (Value.int .i64) pv w m es
def LocksR (w : World) (base k : Nat) (M : TM) (F : Nat → Prop) : Prop :=
  ∃ (mv : Value) (C : List TC) (F0 : Nat → Prop), base ≤ k ∧ Bx w k 121 [mv] ∧ MapN w base mv (esOf M C) ∧ LkAll w base M C F0 ∧ (∀ x, F x ↔ x = k ∨ mv = .map (some x) ∨ F0 x)
section
variable {w w' : World} {base k m b t e sz n i j : Nat} {M : TM} {C : List TC} {F G : Nat → Prop} {cs : List Value} {v mv : Value} {T T' : TX} {c c' : TC}
theorem TxAt.lt (h : TxAt w base T c) : ∀ x, PartT c x → base ≤ x ∧ x < w.heap.size := fun x hx => by
  obtain ⟨h0, h1, h2, h3, h4, h5, _⟩ := h
  rcases hx with rfl | hx | hx | hx | ⟨r, hr, hx⟩
  · exact ⟨h0, h1.lt⟩
  · exact h2.lt x hx
  · exact h3.lt x hx
  · exact h5.lt x hx
  · exact (h4 _ (List.mem_map.2 ⟨r, hr, rfl⟩)).lt x hx
theorem TxAt.keepG (h : TxAt w base T c) (E : Gr w w' G) (hd : Dj (PartT c) G) : TxAt w' base T c := by
  obtain ⟨h0, h1, h2, h3, h4, h5, h6⟩ := h
  refine ⟨h0, h1.keepG E (hd _ (.inl rfl)), h2.keepG E fun x hx => hd x (.inr (.inl hx)), h3.keepG E fun x hx => hd x (.inr (.inr (.inl hx))), fun x9 hx9 => (h4 x9 hx9).keepG E fun x hx => ?_, h5.keepG E fun x hx => hd x (.inr (.inr (.inr (.inl hx)))), h6⟩
  obtain ⟨r, hr, rfl⟩ := List.mem_map.1 hx9
  exact hd x (.inr (.inr (.inr (.inr ⟨r, hr, hx⟩))))
theorem TxAt.mono {base' : Nat} (h : TxAt w base T c) (hb : base' ≤ base) : TxAt w base' T c :=
  ⟨Nat.le_trans hb h.1, h.2.1, h.2.2.1.mono hb, h.2.2.2.1.mono hb, fun x9 hx9 => (h.2.2.2.2.1 x9 hx9).mono hb, h.2.2.2.2.2.1.mono hb, h.2.2.2.2.2.2⟩
theorem TxAt.notBx (h : TxAt w base T c) (B : Bx w b t cs) (h1 : t ≠ 164) (h2 : t ≠ 46) (h3 : t ≠ 169) (h4 : t ≠ 9) : ¬ PartT c b := fun hf => by
  obtain ⟨a0, a1, a2, a3, a4, a5, _⟩ := h
  rcases hf with hf | hf | hf | hf | ⟨r, hr, hf⟩
  · exact B.ne a1 h1 hf
  · exact a2.neB B h2 hf
  · exact a3.neB B h3 hf
  · exact a5.neB B h4 hf
  · exact (a4 _ (List.mem_map.2 ⟨r, hr, rfl⟩)).neB B h2 hf
theorem TxAt.notOwn {base2 : Nat} (h : TxAt w base T c) (O : Own w base2 e sz v n cs) (h1 : e ≠ 164) (h2 : e ≠ 46) (h3 : e ≠ 169) (h4 : e ≠ 9) : Dj (Bl v) (PartT c) := fun x hx hf => by
  obtain ⟨a0, a1, a2, a3, a4, a5, _⟩ := h
  rcases hf with rfl | hf | hf | hf | ⟨r, hr, hf⟩
  · exact O.neB a1 (fun q => h1 q.symm) hx
  · exact O.notOwn a2 h2 x hx hf
  · exact O.notOwn a3 h3 x hx hf
  · exact O.notOwn a5 h4 x hx hf
  · exact O.notOwn (a4 _ (List.mem_map.2 ⟨r, hr, rfl⟩)) h2 x hx hf
theorem TxAt.notMap {K V : Type} {kv : K → Value} {vv : V → Value} {es : List (K × V)} (h : TxAt w base T c) (Mp : MapC kv vv w m es) : ¬ PartT c m := fun hf => by
  obtain ⟨a0, a1, a2, a3, a4, a5, _⟩ := h
  rcases hf with hf | hf | hf | hf | ⟨r, hr, hf⟩
  · exact a1.notMap Mp hf.symm
  · exact a2.notMap Mp hf
  · exact a3.notMap Mp hf
  · exact a5.notMap Mp hf
  · exact (a4 _ (List.mem_map.2 ⟨r, hr, rfl⟩)).notMap Mp hf
theorem LkAll.lt (h : LkAll w base M C F) : ∀ x, F x → base ≤ x ∧ x < w.heap.size := fun x hx => by
  obtain ⟨i, hi, hx⟩ := (h.2.2.2 x).1 hx
  exact (h.2.1 i hi).lt x hx
theorem LkAll.keepG (h : LkAll w base M C F) (E : Gr w w' G) (hd : Dj F G) : LkAll w' base M C F :=
  ⟨h.1, fun i hi => (h.2.1 i hi).keepG E fun x hx => hd x ((h.2.2.2 x).2 ⟨i, hi, hx⟩), h.2.2.1, h.2.2.2⟩
theorem LkAll.kz (h : LkAll w base M C F) (E9 : w.grownBy w' none) : LkAll w' base M C F := h.keepG (Gr.of0 E9 NoB) (fun _ _ h => h)
theorem LkAll.mono {base' : Nat} (h : LkAll w base M C F) (hb : base' ≤ base) : LkAll w base' M C F := ⟨h.1, fun i hi => (h.2.1 i hi).mono hb, h.2.2⟩
theorem LkAll.nil (w : World) (base : Nat) : LkAll w base [] [] NoB := ⟨rfl, fun _ h => absurd h (Nat.not_lt_zero _), fun _ _ h => absurd h (Nat.not_lt_zero _), fun x => ⟨fun h => h.elim, fun ⟨_, h, _⟩ => absurd h (Nat.not_lt_zero _)⟩⟩
theorem LkAll.notBx (h : LkAll w base M C F) (B : Bx w b t cs) (h1 : t ≠ 164) (h2 : t ≠ 46) (h3 : t ≠ 169) (h4 : t ≠ 9) : ¬ F b := fun hf => by
  obtain ⟨i, hi, hf⟩ := (h.2.2.2 b).1 hf
  exact (h.2.1 i hi).notBx B h1 h2 h3 h4 hf
theorem LkAll.notOwn {base2 : Nat} (h : LkAll w base M C F) (O : Own w base2 e sz v n cs) (h1 : e ≠ 164) (h2 : e ≠ 46) (h3 : e ≠ 169) (h4 : e ≠ 9) : Dj (Bl v) F := fun x hx hf => by
  obtain ⟨i, hi, hf⟩ := (h.2.2.2 x).1 hf
  exact (h.2.1 i hi).notOwn O h1 h2 h3 h4 x hx hf
theorem LkAll.notMap {K V : Type} {kv : K → Value} {vv : V → Value} {es : List (K × V)} (h : LkAll w base M C F) (Mp : MapC kv vv w m es) : ¬ F m := fun hf => by
  obtain ⟨i, hi, hf⟩ := (h.2.2.2 m).1 hf
  exact (h.2.1 i hi).notMap Mp hf
theorem LkAll.snoc (h : LkAll w base M C F) {n : Int} (hT : TxAt w base T c) (hd : Dj F (PartT c)) : LkAll w base (M ++ [(n, T)]) (C ++ [c]) (fun x => F x ∨ PartT c x) := by
  obtain ⟨h1, h2, h3, h4⟩ := h
  have hlast : ∀ {i}, i < (M ++ [(n, T)]).length → ¬ i < M.length → i = M.length := fun {i} a b => by simp at a; omega
  have eC : (C ++ [c]).getD M.length default = c := by rw [← h1]; exact getD_snoc_eq
  have eM : (M ++ [(n, T)]).getD M.length default = (n, T) := getD_snoc_eq
  have hdj : ∀ i, i < M.length → Dj (PartT (C.getD i default)) (PartT c) := fun i hi x hx => hd x ((h4 x).2 ⟨i, hi, hx⟩)
  refine ⟨by simp [h1], fun i hi => ?_, fun i j hi hj hne => ?_, fun x => ⟨fun hx => ?_, fun hx => ?_⟩⟩
  · by_cases hs : i < M.length
    · rw [getD_snoc_lt hs, getD_snoc_lt (by rw [h1]; exact hs)]; exact h2 i hs
    · obtain rfl := hlast hi hs
      rw [eM, eC]; exact hT
  · by_cases hs : i < M.length <;> by_cases hs2 : j < M.length
    · rw [getD_snoc_lt (by rw [h1]; exact hs), getD_snoc_lt (by rw [h1]; exact hs2)]; exact h3 i j hs hs2 hne
    · obtain rfl := hlast hj hs2
      rw [getD_snoc_lt (by rw [h1]; exact hs), eC]; exact hdj i hs
    · obtain rfl := hlast hi hs
      rw [eC, getD_snoc_lt (by rw [h1]; exact hs2)]; exact (hdj j hs2).symm
    · exact absurd ((hlast hi hs).trans (hlast hj hs2).symm) hne
  · rcases hx with hx | hx
    · obtain ⟨i, hi, hx⟩ := (h4 x).1 hx
      exact ⟨i, by simp; omega, by rw [getD_snoc_lt (by rw [h1]; exact hi)]; exact hx⟩
    · exact ⟨M.length, by simp, by rw [eC]; exact hx⟩
  · obtain ⟨i, hi, hx⟩ := hx
    by_cases hs : i < M.length
    · rw [getD_snoc_lt (by rw [h1]; exact hs)] at hx; exact .inl ((h4 x).2 ⟨i, hs, hx⟩)
    · obtain rfl := hlast hi hs
      rw [eC] at hx; exact .inr hx
theorem getD_erase {α : Type} {l : List α} {i j : Nat} {d : α} : (l.eraseIdx j).getD i d = if i < j then l.getD i d else l.getD (i + 1) d := by
  simp only [List.getD_eq_getElem?_getD, List.getElem?_eraseIdx]
  split <;> rfl
theorem LkAll.erase (h : LkAll w base M C F) (hj : j < M.length) : ∃ F2, LkAll w base (M.eraseIdx j) (C.eraseIdx j) F2 ∧ ∀ x, F2 x → F x := by
  obtain ⟨h1, h2, h3, h4⟩ := h
  have hl : (M.eraseIdx j).length = M.length - 1 := by rw [List.length_eraseIdx, if_pos hj]
  have up : ∀ i, i < (M.eraseIdx j).length → (if i < j then i else i + 1) < M.length := fun i hi => by split <;> omega
  have gM : ∀ i, (M.eraseIdx j).getD i default = M.getD (if i < j then i else i + 1) default := fun i => by rw [getD_erase]; split <;> rfl
  have gC : ∀ i, (C.eraseIdx j).getD i default = C.getD (if i < j then i else i + 1) default := fun i => by rw [getD_erase]; split <;> rfl
  refine ⟨_, ⟨by rw [List.length_eraseIdx, if_pos (by omega), hl, h1], fun i hi => ?_, fun a b ha hb hab => ?_, fun x => Iff.rfl⟩, fun x hx => ?_⟩
  · rw [gM, gC]; exact h2 _ (up i hi)
  · rw [gC, gC]
    refine h3 _ _ (up a ha) (up b hb) ?_
    split <;> split <;> omega
  · obtain ⟨i, hi, hx⟩ := hx
    rw [gC] at hx
    exact (h4 x).2 ⟨_, up i hi, hx⟩
theorem LkAll.turn (h : LkAll w base M C F) (hi : i < M.length) {n : Int} (E : Gr w w' (PartT (C.getD i default))) (hT : TxAt w' base T' c') (hN : ∀ x, PartT c' x → PartT (C.getD i default) x ∨ w.heap.size ≤ x) :
    Gr w w' F ∧ ∃ F2, LkAll w' base (M.set i (n, T')) (C.set i c') F2 ∧ NewF w.heap.size F F2 := by
  obtain ⟨h1, h2, h3, h4⟩ := h
  have hiC : i < C.length := by rw [h1]; exact hi
  have gC : ∀ j, (C.set i c').getD j default = if j = i then c' else C.getD j default := fun j => getD_set hiC
  have gM : ∀ j, (M.set i (n, T')).getD j default = if j = i then (n, T') else M.getD j default := fun j => getD_set hi
  refine ⟨E.mono fun x _ hx => (h4 x).2 ⟨i, hi, hx⟩, _, ⟨by simp [h1], fun j hj => ?_, fun a b ha hb hab => ?_, fun x => Iff.rfl⟩, fun x hx => ?_⟩
  · rw [List.length_set] at hj
    rw [gM, gC]
    by_cases hji : j = i
    · rw [if_pos hji, if_pos hji]; exact hT
    · rw [if_neg hji, if_neg hji]; exact (h2 j hj).keepG E (h3 j i hj hi hji)
  · rw [List.length_set] at ha hb
    rw [gC, gC]
    by_cases q1 : a = i <;> by_cases q2 : b = i
    · exact absurd (q1.trans q2.symm) hab
    · rw [if_pos q1, if_neg q2]
      exact (Dj.stepF hN (fun x hx => ((h2 b hb).lt x hx).2) (h3 b i hb hi q2)).symm
    · rw [if_neg q1, if_pos q2]
      exact Dj.stepF hN (fun x hx => ((h2 a ha).lt x hx).2) (h3 a i ha hi q1)
    · rw [if_neg q1, if_neg q2]; exact h3 a b ha hb hab
  · obtain ⟨j, hj, hx⟩ := hx
    rw [List.length_set] at hj
    rw [gC] at hx
    by_cases hji : j = i
    · rw [if_pos hji] at hx
      exact (hN x hx).imp (fun q => (h4 x).2 ⟨i, hi, q⟩) id
    · rw [if_neg hji] at hx
      exact .inl ((h4 x).2 ⟨j, hj, hx⟩)
theorem el_rdd {D : List RD} {e : Int} {i : Nat} (he : e = (i : Int)) (h : i < D.length) : ∀ j u, ([.string (bs (D.getD i default).tab), (D.getD i default).la] : List Value)[j]? = some u → (D.flatMap cellsRd)[e.toNat * 2 + j]? = some u :=
  el_flat (f := cellsRd) (d := default) (by decide) (fun _ _ => rfl) he h
/-! the map's own list -/
theorem esOf_len (h : C.length = M.length) : (esOf M C).length = M.length := by unfold esOf; simp [h]
theorem esOf_keys (h : C.length = M.length) : (esOf M C).map Prod.fst = M.map Prod.fst := by
  unfold esOf
  apply List.ext_getElem?
  intro i
  simp only [List.getElem?_map, List.getElem?_zipWith]
  by_cases hi : i < M.length
  · rw [List.getElem?_eq_getElem hi, List.getElem?_eq_getElem (by omega)]; rfl
  · rw [List.getElem?_eq_none (by omega), List.getElem?_eq_none (by omega)]; rfl
theorem esOf_look : ∀ {M : TM} {C : List TC} {n : Int}, C.length = M.length → mlook (esOf M C) n = (mlook M n).map fun q => (q.1, (C.getD q.1 default).p)
  | [], [], _, _ => rfl
  | [], _ :: _, _, h => by cases h
  | _ :: _, [], _, h => by cases h
  | (a, t) :: M, c :: C, n, h => by
    have ih := esOf_look (M := M) (C := C) (n := n) (by simpa using h)
    unfold esOf at ih ⊢
    simp only [List.zipWith_cons_cons, mlook]
    split
    · rfl
    · rw [ih]; cases mlook M n <;> rfl
theorem esOf_set (h : C.length = M.length) {n : Int} (hp : c'.p = (C.getD i default).p) (hk : i < M.length → (M.getD i default).1 = n) : esOf (M.set i (n, T')) (C.set i c') = esOf M C := by
  unfold esOf
  apply List.ext_getElem?
  intro q
  simp only [List.getElem?_zipWith, List.getElem?_set]
  by_cases hq : i = q
  · subst hq
    by_cases hi : i < M.length
    · have hiC : i < C.length := by omega
      rw [if_pos rfl, if_pos hi, if_pos rfl, if_pos hiC, List.getElem?_eq_getElem hi, List.getElem?_eq_getElem hiC]
      have h1 := hk hi
      simp only [List.getD_eq_getElem?_getD, List.getElem?_eq_getElem hi, List.getElem?_eq_getElem hiC, Option.getD_some] at h1 hp
      simp only []
      rw [h1, hp]
    · rw [if_pos rfl, if_neg hi, if_pos rfl, if_neg (by omega), List.getElem?_eq_none (by omega), List.getElem?_eq_none (by omega)]
  · rw [if_neg hq, if_neg hq]
theorem esOf_snoc (h : C.length = M.length) {n : Int} : esOf (M ++ [(n, T)]) (C ++ [c]) = esOf M C ++ [(n, c.p)] := by
  unfold esOf
  rw [List.zipWith_append (by omega)]; rfl
theorem esOf_erase (h : C.length = M.length) : esOf (M.eraseIdx j) (C.eraseIdx j) = (esOf M C).eraseIdx j := by
  unfold esOf
  apply List.ext_getElem?
  intro q
  simp only [List.getElem?_zipWith, List.getElem?_eraseIdx]
  by_cases hq : q < j
  · simp only [if_pos hq]
  · simp only [if_neg hq]
/-! the whole -/
theorem LocksR.lt (h : LocksR w base k M F) : ∀ x, F x → base ≤ x ∧ x < w.heap.size := by
  obtain ⟨mv, C, F0, hk, hx, hM, hA, hF⟩ := h
  intro x hf
  rcases (hF x).1 hf with rfl | hf | hf
  · exact ⟨hk, hx.lt⟩
  · rcases hM with ⟨rfl, _⟩ | ⟨m, rfl, hm, hM⟩
    · cases hf
    · injection hf with hf; injection hf with hf; subst hf; exact ⟨hm, hM.lt⟩
  · exact hA.lt x hf
theorem LocksR.keepG (h : LocksR w base k M F) (E : Gr w w' G) (hd : Dj F G) : LocksR w' base k M F := by
  obtain ⟨mv, C, F0, hk, hx, hM, hA, hF⟩ := h
  refine ⟨mv, C, F0, hk, hx.keepG E (hd k ((hF k).2 (.inl rfl))), ?_, hA.keepG E (fun x hx => hd x ((hF x).2 (.inr (.inr hx)))), hF⟩
  rcases hM with hM | ⟨m, rfl, hm, hM⟩
  · exact .inl hM
  · exact .inr ⟨m, rfl, hm, hM.keepG E (hd m ((hF m).2 (.inr (.inl rfl))))⟩
theorem LocksR.kz (h : LocksR w base k M F) (E9 : w.grownBy w' none) : LocksR w' base k M F := h.keepG (Gr.of0 E9 NoB) (fun _ _ h => h)
theorem LocksR.mono {base' : Nat} (h : LocksR w base k M F) (hb : base' ≤ base) : LocksR w base' k M F := by
  obtain ⟨mv, C, F0, hk, hx, hM, hA, hF⟩ := h
  refine ⟨mv, C, F0, Nat.le_trans hb hk, hx, ?_, hA.mono hb, hF⟩
  rcases hM with hM | ⟨m, rfl, hm, hM⟩
  · exact .inl hM
  · exact .inr ⟨m, rfl, Nat.le_trans hb hm, hM⟩
end
end Go.Gx

namespace Go.Proofs.Ytmhdbphpmgjpcaa
open Go.Gx

theorem one3 : oneT Try.prog 3 = true := by kernel_rfl
theorem one4 : oneT Try.prog 4 = true := by kernel_rfl
theorem size4 : (Try.prog.info? 4).map (·.size) = some 1 := by kernel_rfl
theorem one9 : oneT Try.prog 9 = true := by kernel_rfl
theorem one26 : oneT Try.prog 26 = true := by kernel_rfl
theorem slt26 : SlT Try.prog 26 9 (Value.string (bs [])) 1 16 := ⟨Try.underlying26, by kernel_rfl, rfl, by decide⟩
theorem size26 : (Try.prog.info? 26).map (·.size) = some 1 := by kernel_rfl
theorem slt35 : SlT Try.prog 35 3 (Value.int .i64 0) 1 8 := ⟨Try.underlying35, by kernel_rfl, rfl, by decide⟩
theorem slt45 : SlT Try.prog 45 46 (Value.int .u16 0) 1 2 := ⟨Try.underlying45, by kernel_rfl, rfl, by decide⟩
theorem one46 : oneT Try.prog 46 = true := by kernel_rfl
theorem one54 : oneT Try.prog 54 = true := by kernel_rfl
theorem slt54 : SlT Try.prog 54 46 (Value.int .u16 0) 1 2 := ⟨Try.underlying54, by kernel_rfl, rfl, by decide⟩
theorem size54 : (Try.prog.info? 54).map (·.size) = some 1 := by kernel_rfl
theorem one61 : oneT Try.prog 61 = true := by kernel_rfl
theorem size61 : (Try.prog.info? 61).map (·.size) = some 1 := by kernel_rfl
theorem ptrt93 : Try.prog.underlying 93 = some (.pointer (Try.prog.pointee 93)) := by kernel_rfl
theorem slt99 : SlT Try.prog 99 103 (Value.agg #[(Value.int .i64 0), (Value.int .i64 0), (Value.slice none 0 0), (Value.int .u64 0), (Value.slice none 0 0), (Value.string (bs []))]) 6 88 := ⟨Try.underlying99, by kernel_rfl, rfl, by decide⟩
theorem agg103 : aggT Try.prog 103 = some 6 := by kernel_rfl
theorem fld103_0 : fieldT Try.prog 103 0 = some 0 := by kernel_rfl
theorem fld103_1 : fieldT Try.prog 103 1 = some 1 := by kernel_rfl
theorem fld103_2 : fieldT Try.prog 103 2 = some 2 := by kernel_rfl
theorem fld103_3 : fieldT Try.prog 103 3 = some 3 := by kernel_rfl
theorem fld103_4 : fieldT Try.prog 103 4 = some 4 := by kernel_rfl
theorem fld103_5 : fieldT Try.prog 103 5 = some 5 := by kernel_rfl
theorem size103 : (Try.prog.info? 103).map (·.size) = some 6 := by kernel_rfl
theorem zero103 : zeroT Try.prog 103 = some (Value.agg #[(Value.int .i64 0), (Value.int .i64 0), (Value.slice none 0 0), (Value.int .u64 0), (Value.slice none 0 0), (Value.string (bs []))]) := by kernel_rfl
theorem one115 : oneT Try.prog 115 = true := by kernel_rfl
theorem slt115 : SlT Try.prog 115 177 (Value.agg #[(Value.int .i64 0), (Value.slice none 0 0), (Value.int .u64 0), (Value.slice none 0 0), (Value.slice none 0 0), (Value.bool false)]) 6 96 := ⟨Try.underlying115, by kernel_rfl, rfl, by decide⟩
theorem size115 : (Try.prog.info? 115).map (·.size) = some 1 := by kernel_rfl
theorem fld117_0 : fieldT Try.prog 117 0 = some 0 := by kernel_rfl
theorem one119 : oneT Try.prog 119 = true := by kernel_rfl
theorem size119 : (Try.prog.info? 119).map (·.size) = some 1 := by kernel_rfl
theorem fld121_0 : fieldT Try.prog 121 0 = some 0 := by kernel_rfl
theorem one155 : oneT Try.prog 155 = true := by kernel_rfl
theorem size155 : (Try.prog.info? 155).map (·.size) = some 1 := by kernel_rfl
theorem zero155 : zeroT Try.prog 155 = some (Value.pointer none) := by kernel_rfl
theorem one158 : oneT Try.prog 158 = true := by kernel_rfl
theorem slt158 : SlT Try.prog 158 169 (Value.agg #[(Value.string (bs [])), (Value.slice none 0 0)]) 2 40 := ⟨Try.underlying158, by kernel_rfl, rfl, by decide⟩
theorem size158 : (Try.prog.info? 158).map (·.size) = some 1 := by kernel_rfl
theorem fld160_0 : fieldT Try.prog 160 0 = some 0 := by kernel_rfl
theorem fld162_0 : fieldT Try.prog 162 0 = some 0 := by kernel_rfl
theorem agg164 : aggT Try.prog 164 = some 5 := by kernel_rfl
theorem fld164_0 : fieldT Try.prog 164 0 = some 0 := by kernel_rfl
theorem fld164_1 : fieldT Try.prog 164 1 = some 1 := by kernel_rfl
theorem fld164_2 : fieldT Try.prog 164 2 = some 2 := by kernel_rfl
theorem fld164_3 : fieldT Try.prog 164 3 = some 3 := by kernel_rfl
theorem fld164_4 : fieldT Try.prog 164 4 = some 4 := by kernel_rfl
theorem size164 : (Try.prog.info? 164).map (·.size) = some 5 := by kernel_rfl
theorem zero164 : zeroT Try.prog 164 = some (Value.agg #[(Value.slice none 0 0), (Value.int .u64 0), (Value.slice none 0 0), (Value.slice none 0 0), (Value.bool false)]) := by kernel_rfl
theorem agg169 : aggT Try.prog 169 = some 2 := by kernel_rfl
theorem fld169_0 : fieldT Try.prog 169 0 = some 0 := by kernel_rfl
theorem fld169_1 : fieldT Try.prog 169 1 = some 1 := by kernel_rfl
theorem one170 : oneT Try.prog 170 = true := by kernel_rfl
theorem one172 : oneT Try.prog 172 = true := by kernel_rfl
theorem one175 : oneT Try.prog 175 = true := by kernel_rfl
theorem slt175 : SlT Try.prog 175 181 (Value.agg #[(Value.string (bs [])), (Value.slice none 0 0)]) 2 40 := ⟨Try.underlying175, by kernel_rfl, rfl, by decide⟩
theorem size175 : (Try.prog.info? 175).map (·.size) = some 1 := by kernel_rfl
theorem agg177 : aggT Try.prog 177 = some 6 := by kernel_rfl
theorem fld177_0 : fieldT Try.prog 177 0 = some 0 := by kernel_rfl
theorem fld177_1 : fieldT Try.prog 177 1 = some 1 := by kernel_rfl
theorem fld177_2 : fieldT Try.prog 177 2 = some 2 := by kernel_rfl
theorem fld177_3 : fieldT Try.prog 177 3 = some 3 := by kernel_rfl
theorem fld177_4 : fieldT Try.prog 177 4 = some 4 := by kernel_rfl
theorem fld177_5 : fieldT Try.prog 177 5 = some 5 := by kernel_rfl
theorem size177 : (Try.prog.info? 177).map (·.size) = some 6 := by kernel_rfl
theorem zero177 : zeroT Try.prog 177 = some (Value.agg #[(Value.int .i64 0), (Value.slice none 0 0), (Value.int .u64 0), (Value.slice none 0 0), (Value.slice none 0 0), (Value.bool false)]) := by kernel_rfl
theorem fld181_0 : fieldT Try.prog 181 0 = some 0 := by kernel_rfl
theorem fld181_1 : fieldT Try.prog 181 1 = some 1 := by kernel_rfl
theorem ok33 : callOk Try.prog 33 = true := by kernel_rfl
theorem ok34 : callOk Try.prog 34 = true := by kernel_rfl
theorem ok50 : callOk Try.prog 50 = true := by kernel_rfl
theorem ok52 : callOk Try.prog 52 = true := by kernel_rfl
theorem ok53 : callOk Try.prog 53 = true := by kernel_rfl
theorem ok54 : callOk Try.prog 54 = true := by kernel_rfl
theorem ok55 : callOk Try.prog 55 = true := by kernel_rfl
theorem ok56 : callOk Try.prog 56 = true := by kernel_rfl
theorem ok57 : callOk Try.prog 57 = true := by kernel_rfl
theorem ok59 : callOk Try.prog 59 = true := by kernel_rfl
theorem ok60 : callOk Try.prog 60 = true := by kernel_rfl
theorem ok61 : callOk Try.prog 61 = true := by kernel_rfl
theorem ok62 : callOk Try.prog 62 = true := by kernel_rfl
theorem ok63 : callOk Try.prog 63 = true := by kernel_rfl
theorem ok64 : callOk Try.prog 64 = true := by kernel_rfl
theorem ok65 : callOk Try.prog 65 = true := by kernel_rfl
theorem ok66 : callOk Try.prog 66 = true := by kernel_rfl
theorem ok67 : callOk Try.prog 67 = true := by kernel_rfl
theorem ok68 : callOk Try.prog 68 = true := by kernel_rfl
theorem ok69 : callOk Try.prog 69 = true := by kernel_rfl
theorem ok70 : callOk Try.prog 70 = true := by kernel_rfl
theorem ok72 : callOk Try.prog 72 = true := by kernel_rfl
theorem ok77 : callOk Try.prog 77 = true := by kernel_rfl
theorem ok78 : callOk Try.prog 78 = true := by kernel_rfl
theorem ok94 : callOk Try.prog 94 = true := by kernel_rfl
theorem ok95 : callOk Try.prog 95 = true := by kernel_rfl
theorem ok96 : callOk Try.prog 96 = true := by kernel_rfl
theorem ok97 : callOk Try.prog 97 = true := by kernel_rfl
theorem ok98 : callOk Try.prog 98 = true := by kernel_rfl
theorem ok99 : callOk Try.prog 99 = true := by kernel_rfl
theorem ok100 : callOk Try.prog 100 = true := by kernel_rfl
theorem ok101 : callOk Try.prog 101 = true := by kernel_rfl
theorem ok102 : callOk Try.prog 102 = true := by kernel_rfl
theorem ok103 : callOk Try.prog 103 = true := by kernel_rfl
theorem ok104 : callOk Try.prog 104 = true := by kernel_rfl
theorem ok105 : callOk Try.prog 105 = true := by kernel_rfl
theorem ok106 : callOk Try.prog 106 = true := by kernel_rfl
theorem ok107 : callOk Try.prog 107 = true := by kernel_rfl
theorem ok108 : callOk Try.prog 108 = true := by kernel_rfl
theorem ok109 : callOk Try.prog 109 = true := by kernel_rfl
theorem ok110 : callOk Try.prog 110 = true := by kernel_rfl
theorem ok111 : callOk Try.prog 111 = true := by kernel_rfl
theorem ok112 : callOk Try.prog 112 = true := by kernel_rfl
theorem ok113 : callOk Try.prog 113 = true := by kernel_rfl
theorem ok119 : callOk Try.prog 119 = true := by kernel_rfl
theorem ok120 : callOk Try.prog 120 = true := by kernel_rfl
theorem ok121 : callOk Try.prog 121 = true := by kernel_rfl
theorem ok122 : callOk Try.prog 122 = true := by kernel_rfl
theorem ok123 : callOk Try.prog 123 = true := by kernel_rfl
theorem ok124 : callOk Try.prog 124 = true := by kernel_rfl
theorem ok125 : callOk Try.prog 125 = true := by kernel_rfl
theorem ok126 : callOk Try.prog 126 = true := by kernel_rfl
theorem ok127 : callOk Try.prog 127 = true := by kernel_rfl
theorem ok128 : callOk Try.prog 128 = true := by kernel_rfl
theorem ok129 : callOk Try.prog 129 = true := by kernel_rfl
theorem ok130 : callOk Try.prog 130 = true := by kernel_rfl
theorem ok131 : callOk Try.prog 131 = true := by kernel_rfl
theorem ok139 : callOk Try.prog 139 = true := by kernel_rfl
theorem ok140 : callOk Try.prog 140 = true := by kernel_rfl
theorem ok141 : callOk Try.prog 141 = true := by kernel_rfl
theorem ok142 : callOk Try.prog 142 = true := by kernel_rfl
theorem ok143 : callOk Try.prog 143 = true := by kernel_rfl
theorem ok144 : callOk Try.prog 144 = true := by kernel_rfl
theorem ok145 : callOk Try.prog 145 = true := by kernel_rfl
theorem ok146 : callOk Try.prog 146 = true := by kernel_rfl
theorem ok151 : callOk Try.prog 151 = true := by kernel_rfl
theorem ok152 : callOk Try.prog 152 = true := by kernel_rfl
theorem mixed : Try.prog.follows .mixedOrders = true := by kernel_rfl
end Go.Proofs.Ytmhdbphpmgjpcaa

namespace Go.Proofs.Ytmhdbphpmgjpcaa
open Go.Gx Go.RowKit Go.Maps Go.Sort Go.Shelf Go.Proofs
def keysA_ren : Go.Shelf.Ren := ⟨fun | 7 => 120 | 10 => 138 | n => n, fun | 23 => 119 | 26 => 3 | 3 => 155 | 28 => 203 | 0 => 0 | 27 => 202 | 33 => 40 | 4 => 4 | n => n, fun | n => n⟩
theorem keysA : Go.Proofs.SlLaysZI.n7 Try.prog keysA_ren where
  mixed := by kernel_rfl
  f7 := ⟨Try.f120.name, by decide, Try.func120.trans (congrArg some (by kernel_rfl))⟩
  f10 := ⟨Try.f138.name, by decide, Try.func138.trans (congrArg some (by kernel_rfl))⟩
  t0 := Try.underlying0
  a0 := Try.isAgg0
  z0 := Try.sizeOf0
  v0 := Try.zeroValue0
  t4 := Try.underlying4
  a4 := Try.isAgg4
  z4 := Try.sizeOf4
  v4 := Try.zeroValue4
  t23 := Try.underlying119
  a23 := Try.isAgg119
  z23 := Try.sizeOf119
  v23 := Try.zeroValue119
  t26 := Try.underlying3
  a26 := Try.isAgg3
  z26 := Try.sizeOf3
  v26 := Try.zeroValue3
  t27 := Try.underlying202
  a27 := Try.isAgg202
  z27 := Try.sizeOf202
  v27 := Try.zeroValue202
  t28 := Try.underlying203
  a28 := Try.isAgg203
  z28 := Try.sizeOf203
  v28 := Try.zeroValue203
  t33 := Try.underlying40
  a33 := Try.isAgg40
  z33 := Try.sizeOf40
  v33 := Try.zeroValue40
def sortedA_ren : Go.Shelf.Ren := ⟨fun | 6 => 119 | 8 => 136 | 9 => 137 | 11 => 149 | 13 => 148 | 12 => 150 | 23 => 162 | 24 => 163 | 14 => 164 | 15 => 165 | 16 => 166 | 17 => 167 | 18 => 168 | 19 => 169 | 20 => 170 | 21 => 171 | 22 => 172 | 25 => 178 | 26 => 174 | 27 => 175 | 28 => 179 | 29 => 180 | 30 => 139 | 31 => 182 | n => n, fun | 26 => 3 | 28 => 203 | 24 => 35 | 0 => 0 | 3 => 3 | 37 => 184 | 48 => 236 | 50 => 61 | 4 => 4 | 40 => 229 | 39 => 228 | 45 => 38 | 5 => 5 | 9 => 9 | 51 => 244 | 55 => 248 | 57 => 252 | 58 => 253 | 33 => 40 | n => n, fun | n => n⟩
theorem sortedA : Go.Proofs.SlLaysZI.n6 Try.prog sortedA_ren where
  mixed := by kernel_rfl
  f6 := ⟨Try.f119.name, by decide, Try.func119.trans (congrArg some (by kernel_rfl))⟩
  f8 := ⟨Try.f136.name, by decide, Try.func136.trans (congrArg some (by kernel_rfl))⟩
  f11 := ⟨Try.f149.name, by decide, Try.func149.trans (congrArg some (by kernel_rfl))⟩
  t0 := Try.underlying0
  a0 := Try.isAgg0
  z0 := Try.sizeOf0
  v0 := Try.zeroValue0
  t24 := Try.underlying35
  a24 := Try.isAgg35
  z24 := Try.sizeOf35
  v24 := Try.zeroValue35
  t26 := Try.underlying3
  a26 := Try.isAgg3
  z26 := Try.sizeOf3
  v26 := Try.zeroValue3
  t28 := Try.underlying203
  a28 := Try.isAgg203
  z28 := Try.sizeOf203
  v28 := Try.zeroValue203
  i26 := by kernel_rfl
def sortA_ren : Go.Shelf.Ren := ⟨fun | 5 => 137 | 8 => 148 | 7 => 150 | 19 => 162 | 20 => 163 | 10 => 164 | 11 => 165 | 12 => 166 | 13 => 167 | 14 => 168 | 15 => 169 | 16 => 170 | 17 => 171 | 18 => 172 | 30 => 178 | 31 => 174 | 32 => 175 | 33 => 179 | 34 => 180 | 35 => 139 | 40 => 182 | n => n, fun | 23 => 35 | 25 => 3 | 3 => 3 | 32 => 184 | 22 => 35 | 0 => 0 | 44 => 236 | 46 => 61 | 4 => 4 | 36 => 229 | 35 => 228 | 41 => 38 | 5 => 5 | 9 => 9 | 53 => 244 | 57 => 248 | 63 => 252 | 64 => 253 | n => n, fun | n => n⟩
theorem sortA : Go.Proofs.SlLaysM.n5 Try.prog sortA_ren where
  mixed := by kernel_rfl
  f5 := ⟨Try.f137.name, by decide, Try.func137.trans (congrArg some (by kernel_rfl))⟩
  f7 := ⟨Try.f150.name, by decide, Try.func150.trans (congrArg some (by kernel_rfl))⟩
  f8 := Try.func148.trans (congrArg some (by kernel_rfl))
  f10 := ⟨Try.f164.name, by decide, Try.func164.trans (congrArg some (by kernel_rfl))⟩
  f11 := ⟨Try.f165.name, by decide, Try.func165.trans (congrArg some (by kernel_rfl))⟩
  f12 := ⟨Try.f166.name, by decide, Try.func166.trans (congrArg some (by kernel_rfl))⟩
  f13 := ⟨Try.f167.name, by decide, Try.func167.trans (congrArg some (by kernel_rfl))⟩
  f14 := ⟨Try.f168.name, by decide, Try.func168.trans (congrArg some (by kernel_rfl))⟩
  f15 := ⟨Try.f169.name, by decide, Try.func169.trans (congrArg some (by kernel_rfl))⟩
  f16 := ⟨Try.f170.name, by decide, Try.func170.trans (congrArg some (by kernel_rfl))⟩
  f17 := ⟨Try.f171.name, by decide, Try.func171.trans (congrArg some (by kernel_rfl))⟩
  f18 := ⟨Try.f172.name, by decide, Try.func172.trans (congrArg some (by kernel_rfl))⟩
  f19 := Try.func162.trans (congrArg some (by kernel_rfl))
  f20 := Try.func163.trans (congrArg some (by kernel_rfl))
  f30 := ⟨Try.f178.name, by decide, Try.func178.trans (congrArg some (by kernel_rfl))⟩
  f31 := Try.func174.trans (congrArg some (by kernel_rfl))
  f32 := Try.func175.trans (congrArg some (by kernel_rfl))
  f33 := ⟨Try.f179.name, by decide, Try.func179.trans (congrArg some (by kernel_rfl))⟩
  f34 := ⟨Try.f180.name, by decide, Try.func180.trans (congrArg some (by kernel_rfl))⟩
  f35 := ⟨Try.f139.name, by decide, Try.func139.trans (congrArg some (by kernel_rfl))⟩
  f40 := ⟨Try.f182.name, by decide, Try.func182.trans (congrArg some (by kernel_rfl))⟩
  t0 := Try.underlying0
  a0 := Try.isAgg0
  z0 := Try.sizeOf0
  v0 := Try.zeroValue0
  t3 := Try.underlying3
  a3 := Try.isAgg3
  z3 := Try.sizeOf3
  v3 := Try.zeroValue3
  t4 := Try.underlying4
  a4 := Try.isAgg4
  z4 := Try.sizeOf4
  v4 := Try.zeroValue4
  t5 := Try.underlying5
  a5 := Try.isAgg5
  z5 := Try.sizeOf5
  v5 := Try.zeroValue5
  t9 := Try.underlying9
  a9 := Try.isAgg9
  z9 := Try.sizeOf9
  v9 := Try.zeroValue9
  t22 := Try.underlying35
  a22 := Try.isAgg35
  z22 := Try.sizeOf35
  v22 := Try.zeroValue35
  t23 := Try.underlying35
  a23 := Try.isAgg35
  z23 := Try.sizeOf35
  v23 := Try.zeroValue35
  t25 := Try.underlying3
  a25 := Try.isAgg3
  z25 := Try.sizeOf3
  v25 := Try.zeroValue3
  t32 := Try.underlying184
  a32 := Try.isAgg184
  z32 := Try.sizeOf184
  v32 := Try.zeroValue184
  t35 := Try.underlying228
  a35 := Try.isAgg228
  z35 := Try.sizeOf228
  v35 := Try.zeroValue228
  t36 := Try.underlying229
  a36 := Try.isAgg229
  z36 := Try.sizeOf229
  v36 := Try.zeroValue229
  t41 := Try.underlying38
  a41 := Try.isAgg38
  z41 := Try.sizeOf38
  v41 := Try.zeroValue38
  t44 := Try.underlying236
  a44 := Try.isAgg236
  z44 := Try.sizeOf236
  v44 := Try.zeroValue236
  t46 := Try.underlying61
  a46 := Try.isAgg61
  z46 := Try.sizeOf61
  v46 := Try.zeroValue61
  t53 := Try.underlying244
  a53 := Try.isAgg244
  z53 := Try.sizeOf244
  v53 := Try.zeroValue244
  t57 := Try.underlying248
  a57 := Try.isAgg248
  z57 := Try.sizeOf248
  v57 := Try.zeroValue248
  t63 := Try.underlying252
  a63 := Try.isAgg252
  z63 := Try.sizeOf252
  v63 := Try.zeroValue252
  t64 := Try.underlying253
  a64 := Try.isAgg253
  z64 := Try.sizeOf253
  v64 := Try.zeroValue253

theorem sortsA (m : Nat) : AnyZI.SortsIn Try.prog sortedA_ren Fence.wide m :=
  ⟨fun blk off cap ss W hH hblk hsz => callsIn_wide.2 (AnyM.slices_Sort_int sortA blk off cap ss W hH hblk hsz),
   fun p cap W => callsIn_wide.2 (AnyM.slices_Sort_int_none sortA p cap W)⟩
theorem own_of_row {w : World} {base e sz n : Nat} {v : Value} {cs : List Value} (h : w.ownsRow base e sz v n cs) : Own w base e sz v n cs := by
  obtain ⟨hl, h⟩ := h
  refine ⟨hl, ?_⟩
  rcases h with h | ⟨g, cap, cur, rfl, hb, hg, h1, h2, h3, h4⟩
  · exact .inl h
  · exact .inr ⟨g, 0, cap, cur, (0, 0), rfl, hb, hg, fun j _ hj => by omega, h1, h2, by omega, by simpa using h4⟩
def anyR (_ : Value) : Option (DataW Nat × List MemPlace) := some (.lit (.bool true), [])
def keysUp (es : List (Int × Nat)) : List Int := (es.map Prod.fst).mergeSort (fun x y => decide (x ≤ y))
theorem map_own {w : World} {m : Nat} {es : List (Int × Nat)} {pv : Nat → Value} (hM : MapC (Value.int .i64) pv w m es) (hk : ∀ p ∈ es, (Lit.int .i64 p.1).wf = true) (hn : es.length ≤ 1000000) :
    ∃ D0 : DataW Nat, w.ownsMap Try.prog 3 anyR m es.length D0 ∧ Maps.size D0 = es.length ∧ (intKeys D0).Perm (es.map Prod.fst) := by
  obtain ⟨arr, clock, hb, hs, he⟩ := hM
  have hlen : arr.size = es.length := by have := congrArg List.length he; simpa using this
  have hkey : ∀ x ∈ arr.toList, ∃ p ∈ es, x.key = Value.int .i64 p.1 := by
    intro x hx
    have h1 := congrArg (List.map Prod.fst) he
    simp only [List.map_map] at h1
    have h2 : x.key ∈ es.map ((Prod.fst : Value × Value → Value) ∘ fun p => (Value.int .i64 p.1, pv p.2)) := by
      rw [← h1]; exact List.mem_map.2 ⟨x, hx, rfl⟩
    obtain ⟨p, hp, he2⟩ := List.mem_map.1 h2
    exact ⟨p, hp, he2.symm⟩
  have hrd : ∀ x ∈ arr.toList, ∀ a : Int, x.key = Value.int .i64 a → WideElems.rd Try.prog 3 anyR x = some (.int .i64 a, .lit (.bool true)) := by
    intro x hx a ha
    obtain ⟨p, hp, hp2⟩ := hkey x hx
    have : a = p.1 := by rw [ha] at hp2; injection hp2
    subst this
    have h3 : keyOf Try.prog 3 x.key = some (.int .i64 p.1) := by rw [ha]; exact keyOf_int_mk Try.underlying3 (hk p hp)
    unfold WideElems.rd anyR
    rw [h3]; rfl
  have F : WideElems.Fit Try.prog 3 anyR arr clock := ⟨by rw [hlen]; unfold maxLen; omega, hs, fun x hx => by
    obtain ⟨p, hp, hp2⟩ := hkey x hx
    exact ⟨_, hrd x hx _ hp2⟩⟩
  refine ⟨_, ⟨arr, clock, hb, F, by omega, rfl⟩, ?_, ?_⟩
  · rw [Maps.size_eq, length_sorted]; simp [hlen]
  · show (((arr.toList.map (WideElems.rg Try.prog 3 anyR)).foldr DataW.insert []).map fun (p : Lit × DataW Nat) => Go.intOf p.1).Perm _
    refine ((Go.WideShapes.sorted_perm _).map _).trans ?_
    rw [List.map_map]
    have : arr.toList.map ((fun p : Lit × DataW Nat => Go.intOf p.1) ∘ WideElems.rg Try.prog 3 anyR) = es.map Prod.fst := by
      have h1 := congrArg (List.map Prod.fst) he
      simp only [List.map_map] at h1
      have h4 : (arr.toList.map fun e => e.key) = (es.map Prod.fst).map (Value.int .i64) := by rw [List.map_map]; exact h1
      have h5 : arr.toList.map ((fun p : Lit × DataW Nat => Go.intOf p.1) ∘ WideElems.rg Try.prog 3 anyR) = arr.toList.map fun e => match e.key with | .int _ a => a | _ => 0 := by
        apply List.map_congr_left
        intro x hx
        obtain ⟨p, hp, hp2⟩ := hkey x hx
        simp only [Function.comp]
        rw [WideElems.rg_of (hrd x hx _ hp2), hp2]; rfl
      rw [h5]
      have h6 : (arr.toList.map fun e => match e.key with | .int _ a => a | _ => 0) = (arr.toList.map fun e => e.key).map fun v => match v with | .int _ a => a | _ => 0 := by rw [List.map_map]; rfl
      rw [h6, h4, List.map_map]
      apply List.ext_getElem?
      intro i
      simp only [List.getElem?_map]
      cases (es[i]?) <;> rfl
    rw [this]
theorem sortedKeys_ret {w : World} {m b t : Nat} {es : List (Int × Nat)} {pv : Nat → Value} (hM : MapC (Value.int .i64) pv w m es) (hk : ∀ p ∈ es, (Lit.int .i64 p.1).wf = true) (hn : es.length ≤ 1000000) (hB : Bx w b t [.map (some m)]) :
    Ret Try.prog 119 #[.func (.func 138) #[] #[ptr b 0]] w (fun v' w' => Below w.heap.size w w' ∧ Own w' w.heap.size 3 1 v' (keysUp es).length ((keysUp es).map (Value.int .i64))) := by
  obtain ⟨D0, hown, hsz, hp⟩ := map_own hM hk hn
  refine (callsIn_wide (n := 5)).1 ?_
  have hseq : SeqGives Fence.wide 2 Try.prog 138 #[.pointer (some ⟨b, 0, none⟩)] encZ (fun ss => ss.Perm (intKeys D0)) (Maps.size D0) w :=
    AnyZI.keys_gives (ρ := keysA_ren) { keysA with } Fence.wide _ trivial rfl (by omega) b m es.length D0 _ hB.lt (hB.cell rfl) hown
  have cS := AnyZI.sorted_in sortedA Fence.wide 5 trivial trivial trivial trivial rfl (by omega) (sortsA _) (enters_of Try.func137 (by kernel_rfl) rfl) 138 #[.pointer (some ⟨b, 0, none⟩)] trivial (enters_of Try.func138 (by kernel_rfl) rfl) _ _ (by rw [hsz]; unfold maxLen; omega) (by rw [hsz]; omega) _ hseq
  change CallsIn _ _ Try.prog 119 _ _ _ at cS
  refine cS.mono ?_
  rintro e w' ⟨v, ss, rfl, hS, hrow, hnil, hb⟩
  refine ⟨v, rfl, hb, ?_⟩
  have e1 : ss.mergeSort (fun x y => decide (x ≤ y)) = keysUp es := mergeSort_of_perm_i (hS.trans hp)
  have e2 : ss.length = (keysUp es).length := by rw [← e1, List.length_mergeSort]
  have := own_of_row hrow
  rw [e1, e2] at this
  exact this
end Go.Proofs.Ytmhdbphpmgjpcaa

namespace Go.Proofs.Ytmhdbphpmgjpcaa
open Go.Gx
theorem takeT {α : Type} {l : List α} {i : Nat} {d : α} (h : i < l.length) : l.take (i + 1) = l.take i ++ [l.getD i d] := by simp [List.getD_eq_getElem?_getD, h]
theorem eq_u16 {a b : UInt16} (h : ((a.toNat : Nat) : Int) = ((b.toNat : Nat) : Int)) : a = b := UInt16.toNat_inj.1 (by omega)
theorem sub_of_hm {v v' : Value} {m n : Nat} (hm : v'.ownBlock = v.ownBlock ∨ ∀ k, v'.ownBlock = some k → n ≤ k) (hle : m ≤ n) : ∀ y, Bl v' y → Bl v y ∨ m ≤ y := fun y hy => hm.elim (fun e => .inl (e.symm.trans hy)) (fun h => .inr (Nat.le_trans hle (h y hy)))
theorem filtT {α : Type} {l : List α} {i : Nat} {d : α} {p : α → Bool} (h : i < l.length) (hp : p (l.getD i d) = true) : (l.take (i + 1)).filter p = (l.take i).filter p ++ [l.getD i d] := by
  rw [takeT (d := d) h, List.filter_append]
  simp only [List.filter_cons, hp, if_true, List.filter_nil]
theorem filtF {α : Type} {l : List α} {i : Nat} {d : α} {p : α → Bool} (h : i < l.length) (hp : p (l.getD i d) = false) : (l.take (i + 1)).filter p = (l.take i).filter p := by
  rw [takeT (d := d) h, List.filter_append]
  simp only [List.filter_cons, hp, List.filter_nil, Bool.false_eq_true, if_false, List.append_nil]
theorem filt_le {α : Type} {l : List α} {i : Nat} {p : α → Bool} (h : i ≤ l.length) : ((l.take i).filter p).length ≤ i := Nat.le_trans (List.length_filter_le _ _) (by rw [List.length_take]; omega)
def writB (W : List (List UInt8)) (x : List UInt8) : Bool := W.any fun y => decide (y = x)
def covB (R : List (List UInt8 × List UInt16)) (x : List UInt8) (l : List UInt16) : Bool := R.any fun r => decide (r.1 = x) && flowsL l r.2
theorem covB_map {D : List RD} {x : List UInt8} {l : List UInt16} : (D.any fun r => decide (r.tab = x) && flowsL l r.lab) = covB (D.map rOf) x l := by
  unfold covB; rw [List.any_map]; rfl
def standB (t : TX) (reads : List (List UInt8)) (x : List UInt8) (l : List UInt16) : Bool := reads.any (writB t.writes) || (decide (x ≠ []) && (writB t.writes x || covB t.reads x l))
def addR (R : List (List UInt8 × List UInt16)) (a : List UInt8 × List UInt16) : List (List UInt8 × List UInt16) := if (R.any fun r => decide (a.1 = r.1) && decide (a.2 = r.2)) = true then R else R ++ [a]
def addW (W : List (List UInt8)) (x : List UInt8) : List (List UInt8) := if (W.any fun y => decide (x = y)) = true then W else W ++ [x]
def sortK (M : TM) : List Int := (M.map Prod.fst).mergeSort (fun x y => decide (x ≤ y))
def txAt (M : TM) (x : Int) : TX := (mget M x).getD default
def othersL (M : TM) (n : Int) (q : List UInt16 → Bool) : List Int := (sortK M).filter fun i => decide (i ≠ n) && q (txAt M i).label
def stB (M : TM) (T : TX) (Rs : List (List UInt8)) (x : List UInt8) (i : Int) : Bool := standB (txAt M i) Rs x T.label
def dieB (M : TM) (T : TX) (Rs : List (List UInt8)) (x : List UInt8) (i : Int) : Bool := stB M T Rs x i && decide ((txAt M i).stamp ≤ T.stamp)
def sameQ (T : TX) (l : List UInt16) : Bool := decide (l = T.label)
def outW (p : Int → Bool) (L : List Int) : Int := if L.any p = true then 2 else 1
def askO (M : TM) (n : Int) (T : TX) (Rs : List (List UInt8)) (x : List UInt8) : Int := if (othersL M n (sameQ T)).any (dieB M T Rs x) = true then 3 else outW (stB M T Rs x) (othersL M n (sameQ T))
def gotR (T : TX) (Rs : List (List UInt8)) : List (List UInt8 × List UInt16) := Rs.foldl (fun R s => addR R (s, T.label)) T.reads
def gotW (T : TX) (x : List UInt8) : List (List UInt8) := if x = [] then T.writes else addW T.writes x
def askT (T : TX) (Rs : List (List UInt8)) (x : List UInt8) (o : Int) : TX := if o = 1 then { T with reads := gotR T Rs, writes := gotW T x } else T
theorem outW_f {p : Int → Bool} {L : List Int} {i : Nat} (h : i < L.length) (hp : p (L.getD i 0) = false) : outW p (L.take (i + 1)) = outW p (L.take i) := by
  unfold outW; rw [takeT (d := 0) h, List.any_append, List.any_cons, hp]; simp
theorem outW_t {p : Int → Bool} {L : List Int} {i : Nat} (h : i < L.length) (hp : p (L.getD i 0) = true) : outW p (L.take (i + 1)) = 2 := by
  unfold outW; rw [takeT (d := 0) h, List.any_append, List.any_cons, hp]; simp
theorem gotR_step {T : TX} {Rs : List (List UInt8)} {i : Nat} (h : i < Rs.length) : gotR T (Rs.take (i + 1)) = addR (gotR T (Rs.take i)) (Rs.getD i [], T.label) := by
  unfold gotR; rw [takeT (d := []) h, List.foldl_append]; rfl
theorem addR_len {R : List (List UInt8 × List UInt16)} {a : List UInt8 × List UInt16} : (addR R a).length ≤ R.length + 1 := by unfold addR; split <;> simp
theorem addR_ok {R : List (List UInt8 × List UInt16)} {a : List UInt8 × List UInt16} (h : ∀ r ∈ R, r.2.length ≤ 8) (ha : a.2.length ≤ 8) : ∀ r ∈ addR R a, r.2.length ≤ 8 := fun r hr => by
  unfold addR at hr
  split at hr
  · exact h r hr
  · rcases List.mem_append.1 hr with q | q
    · exact h r q
    · obtain rfl : r = a := by simpa using q
      exact ha
theorem gotR_ok {T : TX} (hl : T.label.length ≤ 8) : ∀ (Rs : List (List UInt8)) (T' : TX), T'.label = T.label → (∀ r ∈ T'.reads, r.2.length ≤ 8) → (∀ r ∈ gotR T' Rs, r.2.length ≤ 8) ∧ (gotR T' Rs).length ≤ T'.reads.length + Rs.length
  | [], _, _, h => ⟨h, by simp [gotR]⟩
  | a :: Rs, T', he, h => by
    have h2 := gotR_ok hl Rs { T' with reads := addR T'.reads (a, T'.label) } he (addR_ok h (by rw [he]; exact hl))
    have h3 : (addR T'.reads (a, T'.label)).length ≤ T'.reads.length + 1 := addR_len
    refine ⟨h2.1, Nat.le_trans h2.2 ?_⟩
    show (addR T'.reads (a, T'.label)).length + Rs.length ≤ T'.reads.length + (Rs.length + 1)
    omega
def TOk (t : TX) : Prop := t.label.length ≤ 8 ∧ ∀ r ∈ t.reads, r.2.length ≤ 8
def MOk (M : TM) : Prop := M.length ≤ 1000 ∧ ∀ a ∈ M, (Lit.int .i64 a.1).wf = true ∧ TOk a.2
def TxR (w : World) (base p : Nat) (t : TX) (F : Nat → Prop) : Prop := ∃ c : TC, c.p = p ∧ TxAt w base t c ∧ ∀ x, F x ↔ PartT c x
section
variable {w w' : World} {base k m b tt e sz n p : Nat} {M : TM} {C : List TC} {F F0 G FT : Nat → Prop} {cs : List Value} {v mv la rv wv : Value} {T T' : TX} {c c' : TC} {D : List RD} {x i : Int}
theorem TxR.lt (h : TxR w base p T F) : ∀ x, F x → base ≤ x ∧ x < w.heap.size := by
  obtain ⟨c, _, h, hF⟩ := h
  exact fun x hx => h.lt x ((hF x).1 hx)
theorem TxR.keepG (h : TxR w base p T F) (E : Gr w w' G) (hd : Dj F G) : TxR w' base p T F := by
  obtain ⟨c, hp, h, hF⟩ := h
  exact ⟨c, hp, h.keepG E fun x hx => hd x ((hF x).2 hx), hF⟩
theorem TxR.kz (h : TxR w base p T F) (E9 : w.grownBy w' none) : TxR w' base p T F := h.keepG (Gr.of0 E9 NoB) (fun _ _ h => h)
theorem TxR.notBx (h : TxR w base p T F) (B : Bx w b tt cs) (h1 : tt ≠ 164) (h2 : tt ≠ 46) (h3 : tt ≠ 169) (h4 : tt ≠ 9) : ¬ F b := by
  obtain ⟨c, hp, h, hF⟩ := h
  exact fun hf => h.notBx B h1 h2 h3 h4 ((hF b).1 hf)
theorem TxR.notOwn {base2 : Nat} (h : TxR w base p T F) (O : Own w base2 e sz v n cs) (h1 : e ≠ 164) (h2 : e ≠ 46) (h3 : e ≠ 169) (h4 : e ≠ 9) : Dj (Bl v) F := by
  obtain ⟨c, hp, h, hF⟩ := h
  exact fun x hx hf => h.notOwn O h1 h2 h3 h4 x hx ((hF x).1 hf)
theorem TxR.notMap {K V : Type} {kv : K → Value} {vv : V → Value} {es : List (K × V)} (h : TxR w base p T F) (Mp : MapC kv vv w m es) : ¬ F m := by
  obtain ⟨c, hp, h, hF⟩ := h
  exact fun hf => h.notMap Mp ((hF m).1 hf)
theorem TxR.parts (h : TxR w base p T F) : ∃ (la rv wv : Value) (D : List RD), base ≤ p ∧ Bx w p 164 [la, .int .u64 T.stamp, rv, wv, .bool T.doomed] ∧ Own w base 46 1 la T.label.length (T.label.map u16v) ∧ Own w base 169 2 rv D.length (D.flatMap cellsRd) ∧
    (∀ x9 ∈ D.map rdL, Own w base 46 1 x9.1 x9.2.length (x9.2.map u16v)) ∧ Own w base 9 1 wv T.writes.length (T.writes.map sv) ∧ D.map rOf = T.reads ∧ (∀ x, F x ↔ x = p ∨ Bl la x ∨ Bl rv x ∨ Bl wv x ∨ ∃ r ∈ D, Bl r.la x) := by
  obtain ⟨⟨q, la, rv, wv, D⟩, rfl, ⟨h0, h1, h2, h3, h4, h5, h6⟩, hF⟩ := h
  exact ⟨la, rv, wv, D, h0, h1, h2, h3, h4, h5, h6, hF⟩
theorem TxR.mk' (h0 : base ≤ p) (h1 : Bx w p 164 [la, .int .u64 T.stamp, rv, wv, .bool T.doomed]) (h2 : Own w base 46 1 la T.label.length (T.label.map u16v)) (h3 : Own w base 169 2 rv D.length (D.flatMap cellsRd))
    (h4 : ∀ x9 ∈ D.map rdL, Own w base 46 1 x9.1 x9.2.length (x9.2.map u16v)) (h5 : Own w base 9 1 wv T.writes.length (T.writes.map sv)) (h6 : D.map rOf = T.reads) : TxR w base p T (fun x => x = p ∨ Bl la x ∨ Bl rv x ∨ Bl wv x ∨ ∃ r ∈ D, Bl r.la x) :=
  ⟨⟨p, la, rv, wv, D⟩, rfl, ⟨h0, h1, h2, h3, h4, h5, h6⟩, fun _ => Iff.rfl⟩
theorem TOk.rd (h : TOk T) (hD : D.map rOf = T.reads) : ∀ r ∈ D, r.lab.length ≤ 8 := fun r hr => h.2 (rOf r) (by rw [← hD]; exact List.mem_map.2 ⟨r, hr, rfl⟩)
theorem LkAll.key (h : LkAll w base M C F) (hx : mget M x = some T) : ∃ (j p : Nat) (la rv wv : Value) (D : List RD), j < M.length ∧ mlook M x = some (j, T) ∧ M.getD j default = (x, T) ∧ C.getD j default = ⟨p, la, rv, wv, D⟩ ∧ mget (esOf M C) x = some p ∧ base ≤ p ∧
    Bx w p 164 [la, .int .u64 T.stamp, rv, wv, .bool T.doomed] ∧ Own w base 46 1 la T.label.length (T.label.map u16v) ∧ Own w base 169 2 rv D.length (D.flatMap cellsRd) ∧ (∀ x9 ∈ D.map rdL, Own w base 46 1 x9.1 x9.2.length (x9.2.map u16v)) ∧ Own w base 9 1 wv T.writes.length (T.writes.map sv) ∧ D.map rOf = T.reads := by
  obtain ⟨h1, h2, h3, h4⟩ := h
  unfold mget at hx
  obtain ⟨⟨j, t⟩, hq, rfl⟩ := Option.map_eq_some_iff.1 hx
  have hj := mlook_some hq
  obtain ⟨hjl, hjv⟩ := List.getElem?_eq_some_iff.1 hj
  have hM : M.getD j default = (x, t) := by simp [List.getD_eq_getElem?_getD, hj]
  have hT := h2 j hjl
  obtain ⟨⟨p, la, rv, wv, D⟩, hC⟩ : ∃ c, C.getD j default = c := ⟨_, rfl⟩
  rw [hC, hM] at hT
  obtain ⟨a0, a1, a2, a3, a4, a5, a6⟩ := hT
  refine ⟨j, p, la, rv, wv, D, hjl, hq, hM, hC, ?_, a0, a1, a2, a3, a4, a5, a6⟩
  unfold mget
  rw [esOf_look h1, hq]
  simp only [Option.map_some]
  rw [hC]
theorem mget_key {es : List (Int × TX)} (h : x ∈ es.map Prod.fst) : ∃ T, mget es x = some T := by
  cases hq : mget es x with
  | none => exact absurd h (mget_none.1 hq)
  | some T => exact ⟨T, rfl⟩
theorem keysUp_eq (h : C.length = M.length) : keysUp (esOf M C) = sortK M := by unfold keysUp sortK; rw [esOf_keys h]
theorem es_wf (h : C.length = M.length) (hM : MOk M) : ∀ a ∈ esOf M C, (Lit.int .i64 a.1).wf = true := fun a ha => by
  have h1 : a.1 ∈ (esOf M C).map Prod.fst := List.mem_map.2 ⟨a, ha, rfl⟩
  rw [esOf_keys h] at h1
  obtain ⟨b, hb, he⟩ := List.mem_map.1 h1
  rw [← he]; exact (hM.2 b hb).1
theorem sortK_mem : x ∈ sortK M ↔ x ∈ M.map Prod.fst := by unfold sortK; exact List.mem_mergeSort
theorem sortK_len : (sortK M).length = M.length := by unfold sortK; rw [List.length_mergeSort, List.length_map]
theorem others_mem {n : Int} {q : List UInt16 → Bool} (h : x ∈ othersL M n q) : x ∈ M.map Prod.fst ∧ x ≠ n ∧ q (txAt M x).label = true := by
  unfold othersL at h
  rw [List.mem_filter, Bool.and_eq_true, decide_eq_true_eq, sortK_mem] at h
  exact h
theorem others_len {n : Int} {q : List UInt16 → Bool} : (othersL M n q).length ≤ M.length := by
  unfold othersL; exact Nat.le_trans (List.length_filter_le _ _) (by rw [sortK_len]; exact Nat.le_refl _)
theorem LocksR.hit {nn : Int} (h : LocksR w base k M F) (hg : mget M nn = some T) : ∃ m C F0 p FT, Bx w k 121 [.map (some m)] ∧ MapC (Value.int .i64) pv w m (esOf M C) ∧ LkAll w base M C F0 ∧ mget (esOf M C) nn = some p ∧ TxR w base p T FT ∧
    (∀ x, FT x → F x) ∧ (∀ w' T' FT', Gr w w' FT → TxR w' base p T' FT' → NewF w.heap.size FT FT' → Gr w w' F ∧ ∃ F2, LocksR w' base k (mput M nn T') F2 ∧ NewF w.heap.size F F2) := by
  obtain ⟨mv, C, F0, hk, hx, hM, hA, hF⟩ := h
  obtain ⟨j, p, la, rv, wv, D, hj, hl, hMj, hCj, hes, b0, b1, b2, b3, b4, b5, b6⟩ := LkAll.key hA hg
  rcases hM with ⟨rfl, he⟩ | ⟨m, rfl, hm, hM⟩
  · rw [he] at hes; cases hes
  · have hPC : PartT (C.getD j default) = PartT ⟨p, la, rv, wv, D⟩ := by rw [hCj]
    have hT0 : TxAt w base T ⟨p, la, rv, wv, D⟩ := ⟨b0, b1, b2, b3, b4, b5, b6⟩
    have hin : ∀ x, PartT ⟨p, la, rv, wv, D⟩ x → F x := fun x hx => (hF x).2 (.inr (.inr ((hA.2.2.2 x).2 ⟨j, hj, by rw [hCj]; exact hx⟩)))
    refine ⟨m, C, F0, p, PartT ⟨p, la, rv, wv, D⟩, hx, hM, hA, hes, ⟨_, rfl, hT0, fun _ => Iff.rfl⟩, hin, fun w' T' FT' E hT' hN => ?_⟩
    obtain ⟨c', hp', hT', hF'⟩ := hT'
    have hN' : ∀ x, PartT c' x → PartT (C.getD j default) x ∨ w.heap.size ≤ x := fun x hx => by rw [hPC]; exact hN x ((hF' x).2 hx)
    obtain ⟨E2, F2, hA2, hN2⟩ := hA.turn hj (n := nn) (by rw [hPC]; exact E) hT' hN'
    have hput : mput M nn T' = M.set j (nn, T') := by unfold mput; rw [hl]
    refine ⟨E2.mono fun x _ hx => (hF x).2 (.inr (.inr hx)), _, ⟨.map (some m), C.set j c', F2, hk, hx.keepG E (hT0.notBx hx (by decide) (by decide) (by decide) (by decide)), .inr ⟨m, rfl, hm, ?_⟩, by rw [hput]; exact hA2, fun x => Iff.rfl⟩, fun x hx => ?_⟩
    · rw [hput, esOf_set hA.1 (by rw [hp', hCj]) (fun _ => by rw [hMj])]
      exact hM.keepG E (hT0.notMap hM)
    · rcases hx with rfl | hx | hx
      · exact .inl ((hF x).2 (.inl rfl))
      · exact .inl ((hF x).2 (.inr (.inl hx)))
      · exact (hN2 x hx).imp (fun q => (hF x).2 (.inr (.inr q))) id
end
end Go.Proofs.Ytmhdbphpmgjpcaa

namespace Go.Proofs.Ytmhdbphpmgjpcaa
open Go.Gx
def hitB (M : TM) (T : TX) (x : Int) : Bool := T.writes.any fun s => covB (txAt M x).reads s T.label
def doomT (t : TX) : TX := { t with doomed := true }
def doomA (M : TM) (T : TX) (xs : List Int) (a : Int × TX) : Int × TX := if (xs.contains a.1 && hitB M T a.1) = true then (a.1, doomT a.2) else a
def doomL (M : TM) (T : TX) (xs : List Int) : TM := M.map (doomA M T xs)
def upQ (T : TX) (l : List UInt16) : Bool := decide (l ≠ T.label) && flowsL T.label l
section
variable {M : TM} {T : TX} {xs L : List Int} {x : Int} {i j : Nat} {t : TX} {C : List TC}
theorem doomA_key {a : Int × TX} : (doomA M T xs a).1 = a.1 := by unfold doomA; split <;> rfl
theorem doomL_keys : (doomL M T xs).map Prod.fst = M.map Prod.fst := by
  unfold doomL; rw [List.map_map]; exact List.map_congr_left fun a _ => doomA_key
theorem doomL_len : (doomL M T xs).length = M.length := by unfold doomL; rw [List.length_map]
theorem doomL_esOf (h : C.length = M.length) : esOf (doomL M T xs) C = esOf M C := by
  unfold esOf doomL
  apply List.ext_getElem?
  intro q
  simp only [List.getElem?_zipWith, List.getElem?_map]
  cases M[q]? with
  | none => rfl
  | some a => cases C[q]? with
    | none => rfl
    | some c => simp [doomA_key]
theorem doomL_nil : doomL M T [] = M := by
  unfold doomL
  have : ∀ a ∈ M, doomA M T [] a = a := fun a _ => if_neg (by simp)
  rw [List.map_congr_left this]; simp
theorem mget_map {f : Int × TX → Int × TX} (hf : ∀ a, (f a).1 = a.1) : ∀ {M : TM}, mget (M.map f) x = (mget M x).map fun t => (f (x, t)).2
  | [] => rfl
  | (a, u) :: M => by
    have ih := mget_map hf (M := M)
    unfold mget at ih ⊢
    simp only [List.map_cons, mlook]
    have h1 := hf (a, u)
    rw [show f (a, u) = ((f (a, u)).1, (f (a, u)).2) from rfl, h1]
    simp only [mlook]
    by_cases hxa : x = a
    · subst hxa; rw [if_pos rfl, if_pos rfl]; rfl
    · rw [if_neg hxa, if_neg hxa]
      cases hq : mlook M x with
      | none => rw [hq] at ih; cases hq2 : mlook (M.map f) x with
        | none => rfl
        | some r => rw [hq2] at ih; cases ih
      | some q => rw [hq] at ih; cases hq2 : mlook (M.map f) x with
        | none => rw [hq2] at ih; cases ih
        | some r => rw [hq2] at ih; simpa using ih
theorem mget_doom : mget (doomL M T xs) x = (mget M x).map fun t => if (xs.contains x && hitB M T x) = true then doomT t else t := by
  unfold doomL
  rw [mget_map (fun a => doomA_key)]
  cases mget M x with
  | none => rfl
  | some t => simp only [Option.map_some, doomA]; split <;> rfl
theorem doom_parts (h : mget (doomL M T xs) x = some t) : t.reads = (txAt M x).reads ∧ t.label = (txAt M x).label ∧ t.writes = (txAt M x).writes ∧ t.stamp = (txAt M x).stamp := by
  rw [mget_doom] at h
  unfold txAt
  cases hq : mget M x with
  | none => rw [hq] at h; cases h
  | some u =>
    rw [hq] at h
    simp only [Option.map_some, Option.some.injEq] at h
    subst h
    split <;> exact ⟨rfl, rfl, rfl, rfl⟩
theorem hit_parts {D : List RD} (hR : t.reads = (txAt M x).reads) (hD : D.map rOf = t.reads) : (T.writes.any fun s => covB (D.map rOf) s T.label) = hitB M T x := by
  unfold hitB; rw [hD, hR]
theorem contains_take (h : i < L.length) {a : Int} : (L.take (i + 1)).contains a = ((L.take i).contains a || a == L.getD i 0) := by
  rw [takeT (d := 0) h]
  simp [List.contains_eq_any_beq, List.any_append]
  rfl
theorem doom_f (h : i < L.length) (hh : hitB M T (L.getD i 0) = false) : doomL M T (L.take (i + 1)) = doomL M T (L.take i) := by
  unfold doomL
  apply List.map_congr_left
  intro a _
  unfold doomA
  rw [contains_take h]
  by_cases ha : a.1 = L.getD i 0
  · rw [ha, hh]; simp
  · rw [beq_false_of_ne ha, Bool.or_false]
theorem doom_t (h : i < L.length) (hh : hitB M T (L.getD i 0) = true) (hn : (M.map Prod.fst).Nodup) (hj : j < M.length) (hM : (doomL M T (L.take i)).getD j default = (L.getD i 0, t)) :
    doomL M T (L.take (i + 1)) = (doomL M T (L.take i)).set j (L.getD i 0, doomT t) := by
  have hjd : (doomL M T (L.take i)).getD j default = doomA M T (L.take i) M[j] := by unfold doomL; simp [List.getD_eq_getElem?_getD, hj]
  rw [hM] at hjd
  have hk : M[j].1 = L.getD i 0 := by rw [← doomA_key (M := M) (T := T) (xs := L.take i), ← hjd]
  apply List.ext_getElem?
  intro q
  rw [List.getElem?_set]
  by_cases hq : j = q
  · subst hq
    rw [if_pos rfl, if_pos (by rw [doomL_len]; exact hj)]
    unfold doomL
    rw [List.getElem?_map, List.getElem?_eq_getElem hj, Option.map_some]
    have h1 : doomA M T (L.take (i + 1)) M[j] = (M[j].1, doomT M[j].2) := if_pos (by rw [contains_take h, hk, hh]; simp)
    rw [h1, hk]
    have h2 : doomT M[j].2 = doomT t := by
      unfold doomA at hjd
      split at hjd
      · have := congrArg Prod.snd hjd; simp only at this; rw [this]; rfl
      · have := congrArg Prod.snd hjd; simp only at this; rw [this]
    rw [h2]
  · rw [if_neg hq]
    unfold doomL
    rw [List.getElem?_map, List.getElem?_map]
    cases hMq : M[q]? with
    | none => rfl
    | some a =>
      simp only [Option.map_some, Option.some.injEq]
      have hne : a.1 ≠ L.getD i 0 := by
        intro he
        have h1 : (M.map Prod.fst)[q]? = some (L.getD i 0) := by simp [hMq, he]
        have h2 : (M.map Prod.fst)[j]? = some (L.getD i 0) := by rw [List.getElem?_map, List.getElem?_eq_getElem hj, Option.map_some, hk]
        exact hq (nodup_inj hn h2 h1)
      unfold doomA
      rw [contains_take h, beq_false_of_ne hne, Bool.or_false]
theorem doom_ne {j0 j9 : Nat} {n : Int} {T0 T9 : TX} (h0 : M.getD j0 default = (n, T0)) (hj0 : j0 < M.length) (h9 : (doomL M T xs).getD j9 default = (x, T9)) (hne : x ≠ n) : j0 ≠ j9 := by
  rintro rfl
  have hjd : (doomL M T xs).getD j0 default = doomA M T xs M[j0] := by unfold doomL; simp [List.getD_eq_getElem?_getD, hj0]
  have h1 : M[j0] = (n, T0) := by rw [← h0]; simp [List.getD_eq_getElem?_getD, hj0]
  rw [h9] at hjd
  have := congrArg Prod.fst hjd
  rw [doomA_key, h1] at this
  exact hne this
theorem txAt_ok (h : MOk M) (hx : x ∈ M.map Prod.fst) : TOk (txAt M x) := by
  obtain ⟨t, ht⟩ := mget_key hx
  unfold txAt; rw [ht]; exact (h.2 _ (mget_mem ht)).2
end
section
variable {w w' : World} {base j p : Nat} {M : TM} {C : List TC} {F : Nat → Prop} {T : TX} {la rv wv : Value} {D : List RD} {x : Int}
theorem LkAll.doom (h : LkAll w base M C F) (hj : j < M.length) (hM : M.getD j default = (x, T)) (hC : C.getD j default = ⟨p, la, rv, wv, D⟩) (E : w.grownBy w' (some p)) (hx : Bx w' p 164 [la, .int .u64 T.stamp, rv, wv, .bool true]) :
    LkAll w' base (M.set j (x, doomT T)) C F := by
  obtain ⟨h1, h2, h3, h4⟩ := h
  have E' : Gr w w' (fun y => some p = some y) := Gr.of E
  have gM : ∀ q, (M.set j (x, doomT T)).getD q default = if q = j then (x, doomT T) else M.getD q default := fun q => getD_set hj
  have hTj := h2 j hj
  rw [hC, hM] at hTj
  obtain ⟨b0, b1, b2, b3, b4, b5, b6⟩ := hTj
  refine ⟨by simp [h1], fun q hq => ?_, fun a b ha hb hab => ?_, fun y => ?_⟩
  · rw [List.length_set] at hq
    rw [gM]
    by_cases hqj : q = j
    · rw [if_pos hqj, hqj, hC]
      refine ⟨b0, hx, b2.keepG E' fun y hy hp => ?_, b3.keepG E' fun y hy hp => ?_, fun x9 hx9 => (b4 x9 hx9).keepG E' fun y hy hp => ?_, b5.keepG E' fun y hy hp => ?_, b6⟩
      · injection hp with hp; subst hp; exact b2.neB b1 (by decide) hy
      · injection hp with hp; subst hp; exact b3.neB b1 (by decide) hy
      · injection hp with hp; subst hp; exact (b4 x9 hx9).neB b1 (by decide) hy
      · injection hp with hp; subst hp; exact b5.neB b1 (by decide) hy
    · rw [if_neg hqj]
      refine (h2 q hq).keepG E' fun y hy hp => ?_
      injection hp with hp; subst hp
      exact h3 q j hq hj hqj _ hy (by rw [hC]; exact .inl rfl)
  · rw [List.length_set] at ha hb; exact h3 a b ha hb hab
  · rw [h4 y, List.length_set]
theorem LkAll.ne (h : LkAll w base M C F) {i j p q : Nat} {la rv wv la2 rv2 wv2 : Value} {D D2 : List RD} (hi : i < M.length) (hj : j < M.length) (hij : i ≠ j) (h1 : C.getD i default = ⟨p, la, rv, wv, D⟩) (h2 : C.getD j default = ⟨q, la2, rv2, wv2, D2⟩) : p ≠ q := by
  rintro rfl
  exact h.2.2.1 i j hi hj hij p (by rw [h1]; exact .inl rfl) (by rw [h2]; exact .inl rfl)
end
end Go.Proofs.Ytmhdbphpmgjpcaa

namespace Go.Gx
open Go.RowKit Go.MapKept
section
variable {K V : Type}
def ItC (kv : K → Value) (vv : V → Value) (w : World) (r m : Nat) (es : List (K × V)) (D : List Nat) : Prop :=
  ∃ (arr : Array MapEntry) (clock since : Nat) (seen : Array Nat), w.heap[r]? = some (.mapIter (some m) since seen clock) ∧ w.heap[m]? = some (.map arr clock) ∧ Stamped arr clock ∧ arr.toList.map (fun e => (e.key, e.val)) = es.map (fun p => (kv p.1, vv p.2)) ∧
    (∀ x ∈ arr.toList, x.born < since) ∧ since ≤ clock ∧ seen.toList = D.map (fun i => (arr.toList.map (·.born)).getD i 0) ∧ D.Nodup ∧ ∀ i ∈ D, i < es.length
variable {kv : K → Value} {vv : V → Value} {w w' : World} {r m : Nat} {es : List (K × V)} {D : List Nat} {F : Nat → Prop}
theorem ItC.map (h : ItC kv vv w r m es D) : MapC kv vv w m es := by obtain ⟨arr, clock, _, _, _, h1, h2, h3, _⟩ := h; exact ⟨arr, clock, h1, h2, h3⟩
theorem ItC.lt (h : ItC kv vv w r m es D) : r < w.heap.size := by obtain ⟨_, _, _, _, h, _⟩ := h; exact (Array.getElem?_eq_some_iff.1 h).1
theorem ItC.keepG (h : ItC kv vv w r m es D) (E : Gr w w' F) (h1 : ¬ F r) (h2 : ¬ F m) : ItC kv vv w' r m es D := by
  have hr := h.lt; have hm := h.map.lt
  obtain ⟨arr, clock, since, seen, a1, a2, a3⟩ := h
  exact ⟨arr, clock, since, seen, by rw [E.block r hr h1]; exact a1, by rw [E.block m hm h2]; exact a2, a3⟩
theorem ItC.rng (h : ItC kv vv w r m es D) : D.Nodup ∧ ∀ i ∈ D, i < es.length := by obtain ⟨_, _, _, _, _, _, _, _, _, _, _, a, b⟩ := h; exact ⟨a, b⟩
variable {P : Program} {Q : Exit → Act → World → Prop} {a : Act} {l : List (Nat × Value)} {ops : Array Oper} {rest : List Oper} {d ty mt kt et : Nat} {p : String} {af : Array Edge} {x : Operand}
theorem op_range (ht : P.underlying mt = some (.map kt et)) (hx : (putsL a l).eval x = .map (some m)) (M : MapC kv vv w m es)
    (h : ∀ w' r, w.heap.size ≤ r → r < w'.heap.size → ItC kv vv w' r m es [] → w.grownBy w' none → wpList P ops Q rest (putsL a ((d, ptr r 0) :: l)) w') :
    wpList P ops Q (⟨some d, .range mt x, ty, p, af, none⟩ :: rest) (putsL a l) w := by
  obtain ⟨arr, clock, hb, hs, he⟩ := M
  have hm : m < w.heap.size := (Array.getElem?_eq_some_iff.1 hb).1
  refine op_gen (w' := w.alloc (.mapIter (some m) clock #[] clock)) (v := ptr w.heap.size 0) rfl ?_ (h _ w.heap.size (Nat.le_refl _) (by simp) ⟨arr, clock, clock, #[], Go.heap_alloc_new w _, (Below.heap_alloc _ _ m hm).trans hb, hs, he, ?_, Nat.le_refl _, by simp, by simp, by simp⟩ (World.grownBy_alloc w _ none))
  · simp only [execOp, hx, Sem.run_bind, run_range_map w mt kt et m arr clock ht hb, Result.andThen_ok]; rfl
  · exact fun x hx => hs.1 x hx
theorem born_at {arr : Array MapEntry} {es : List (K × V)} (he : arr.toList.map (fun e => (e.key, e.val)) = es.map (fun p => (kv p.1, vv p.2))) {i : Nat} (hi : i < es.length) : ∃ e k v, arr.toList[i]? = some e ∧ es[i]? = some (k, v) ∧ e.key = kv k ∧ e.val = vv v := by
  have hl : arr.toList.length = es.length := by have := congrArg List.length he; simpa using this
  have hi2 : i < arr.toList.length := by omega
  have h1 := congrArg (fun l => l[i]?) he
  simp only [List.getElem?_map, List.getElem?_eq_getElem hi, List.getElem?_eq_getElem hi2, Option.map_some, Option.some.injEq, Prod.mk.injEq] at h1
  exact ⟨_, _, _, List.getElem?_eq_getElem hi2, List.getElem?_eq_getElem hi, h1.1, h1.2⟩
theorem op_next (hx : (putsL a l).eval x = ptr r 0) (I : ItC kv vv w r m es D)
    (h0 : (∀ i, i < es.length → i ∈ D) → wpList P ops Q rest (putsL a ((d, .tuple #[.bool false]) :: l)) w)
    (h1 : ∀ w' i k v, es[i]? = some (k, v) → i ∉ D → ItC kv vv w' r m es (D ++ [i]) → w.grownBy w' (some r) → wpList P ops Q rest (putsL a ((d, .tuple #[.bool true, kv k, vv v]) :: l)) w') :
    wpList P ops Q (⟨some d, .next x false, ty, p, af, none⟩ :: rest) (putsL a l) w := by
  obtain ⟨arr, clock, since, seen, hr, hb, hs, he, hbo, hsk, hse, hnd, hlt⟩ := I
  have hl : arr.toList.length = es.length := by have := congrArg List.length he; simpa using this
  rcases run_next_at (P := P) w ty r m since clock seen arr clock hr hb hbo hsk with ⟨hz, hrun⟩ | ⟨e, hm, w1, hw1, hrun⟩
  · refine op_gen (w' := w) (v := .tuple #[.bool false]) rfl (by simp only [execOp, hx, Sem.run_bind]; unfold ptr; simp [hrun, Result.andThen]) (h0 fun i hi => ?_)
    obtain ⟨e, k, v, h1, _⟩ := born_at he hi
    have hin : seen.contains e.born = true := by
      cases hc : seen.contains e.born
      · have hmem : e ∈ (leftOf arr seen).toList := by unfold leftOf; rw [Array.toList_filter, List.mem_filter]; exact ⟨List.mem_of_getElem? h1, by rw [hc]; rfl⟩
        have := List.length_pos_of_mem hmem
        simp at this; omega
      · rfl
    have hin2 : e.born ∈ seen.toList := by simpa using hin
    rw [hse] at hin2
    obtain ⟨j, hj, hq⟩ := List.mem_map.1 hin2
    obtain ⟨e2, _, _, h2, _⟩ := born_at he (hlt j hj)
    have g1 : (arr.toList.map (·.born))[i]? = some e.born := by rw [List.getElem?_map, h1]; rfl
    have g2 : (arr.toList.map (·.born))[j]? = some e2.born := by rw [List.getElem?_map, h2]; rfl
    have hq2 : e2.born = e.born := by rw [List.getD_eq_getElem?_getD, g2] at hq; exact hq
    rw [hq2] at g2
    rw [nodup_inj hs.2.1 g1 g2]; exact hj
  · have hmem : e ∈ arr.toList ∧ seen.contains e.born = false := by
      unfold leftOf at hm; simpa using hm
    obtain ⟨i, hi⟩ := List.getElem?_of_mem hmem.1
    have hil : i < es.length := by have := (List.getElem?_eq_some_iff.1 hi).1; omega
    obtain ⟨e', k, v, g1, g2, g3, g4⟩ := born_at he hil
    obtain rfl : e = e' := Option.some.inj (hi.symm.trans g1)
    have gb : (arr.toList.map (·.born)).getD i 0 = e.born := by rw [List.getD_eq_getElem?_getD, List.getElem?_map, hi]; rfl
    have hnot : i ∉ D := fun hD => by
      have : e.born ∈ seen.toList := by rw [hse]; exact List.mem_map.2 ⟨i, hD, gb⟩
      have h9 : seen.contains e.born = true := by simpa using this
      rw [hmem.2] at h9; cases h9
    have hrm : r ≠ m := fun q => by rw [q, hb] at hr; cases hr
    have hh : w1.heap = w.heap := by rcases hw1 with rfl | rfl <;> rfl
    have hrl : r < w.heap.size := (Array.getElem?_eq_some_iff.1 hr).1
    refine op_gen (w' := _) (v := .tuple #[.bool true, e.key, e.val]) rfl (by simp only [execOp, hx, Sem.run_bind]; unfold ptr; simp [hrun, Result.andThen]; rfl) ?_
    rw [g3, g4]
    refine h1 _ i k v g2 hnot ⟨arr, clock, since, seen.push e.born, ?_, ?_, hs, he, hbo, hsk, ?_, ?_, ?_⟩ ?_
    · show (w1.heap.setIfInBounds r _)[r]? = _
      rw [hh]; simp [hrl]
    · show (w1.heap.setIfInBounds r _)[m]? = _
      rw [hh, Array.getElem?_setIfInBounds_ne hrm]; exact hb
    · rw [Array.toList_push, hse, List.map_append, List.map_cons, List.map_nil, gb]
    · exact List.nodup_append.2 ⟨hnd, by simp, fun a ha b hb9 => by simp at hb9; subst hb9; exact fun q => hnot (q ▸ ha)⟩
    · exact fun j hj => (List.mem_append.1 hj).elim (hlt j) fun q => by simp at q; omega
    · refine ⟨?_, ?_, ?_, ?_, fun k hk hne => ?_⟩
      · rcases hw1 with rfl | rfl <;> rfl
      · rcases hw1 with rfl | rfl <;> rfl
      · rcases hw1 with rfl | rfl <;> rfl
      · show _ ≤ (w1.heap.setIfInBounds r _).size
        rw [hh]; simp
      · show (w1.heap.setIfInBounds r _)[k]? = _
        rw [hh, Array.getElem?_setIfInBounds_ne fun q => hne (by rw [q])]
theorem op_entry {i : Nat} {k : K} {v : V} (hx : (putsL a l).eval x = ptr r 0) (I : ItC kv vv w r m es (D ++ [i])) (hi : es[i]? = some (k, v))
    (h : wpList P ops Q rest (putsL a ((d, .tuple #[kv k, vv v]) :: l)) w) :
    wpList P ops Q (⟨some d, .entry x, ty, p, af, none⟩ :: rest) (putsL a l) w := by
  obtain ⟨arr, clock, since, seen, hr, hb, hs, he, hbo, hsk, hse, hnd, hlt⟩ := I
  have hil : i < es.length := (List.getElem?_eq_some_iff.1 hi).1
  obtain ⟨e, k', v', g1, g2, g3, g4⟩ := born_at he hil
  rw [hi] at g2; injection g2 with g2; injection g2 with g2 g5; subst g2; subst g5
  have gb : (arr.toList.map (·.born)).getD i 0 = e.born := by rw [List.getD_eq_getElem?_getD, List.getElem?_map, g1]; rfl
  have hsn : seen = (D.map (fun i => (arr.toList.map (·.born)).getD i 0)).toArray.push e.born := by
    apply Array.toList_inj.1
    rw [hse, Array.toList_push, List.map_append, List.map_cons, List.map_nil, gb]
  rw [hsn] at hr
  have hrun := run_entry_at (P := P) w r m since _ arr clock e hr hb (List.mem_of_getElem? g1) hs.2.1
  rw [g3, g4] at hrun
  refine op_gen (w' := w) (v := .tuple #[kv k, vv v]) rfl (by simp only [execOp, hx, Sem.run_bind]; unfold ptr; simp [hrun, Result.andThen]) h
def It0 (w : World) (r : Nat) : Prop := ∃ (a b : Nat) (s : Array Nat), w.heap[r]? = some (.mapIter none a s b)
theorem It0.lt (h : It0 w r) : r < w.heap.size := by obtain ⟨_, _, _, h⟩ := h; exact (Array.getElem?_eq_some_iff.1 h).1
theorem It0.keepG (h : It0 w r) (E : Gr w w' F) (h1 : ¬ F r) : It0 w' r := by
  have hr := h.lt
  obtain ⟨a, b, s, h⟩ := h
  exact ⟨a, b, s, by rw [E.block r hr h1]; exact h⟩
theorem op_range_nil (ht : P.underlying mt = some (.map kt et)) (hx : (putsL a l).eval x = .map none)
    (h : ∀ w' r, w.heap.size ≤ r → r < w'.heap.size → It0 w' r → w.grownBy w' none → wpList P ops Q rest (putsL a ((d, ptr r 0) :: l)) w') :
    wpList P ops Q (⟨some d, .range mt x, ty, p, af, none⟩ :: rest) (putsL a l) w := by
  refine op_gen (w' := w.alloc (.mapIter none 0 #[] 0)) (v := ptr w.heap.size 0) rfl ?_ (h _ w.heap.size (Nat.le_refl _) (by simp) ⟨0, 0, #[], Go.heap_alloc_new w _⟩ (World.grownBy_alloc w _ none))
  simp only [execOp, hx, Sem.run_bind, run_range_nilMap w mt kt et ht, Result.andThen_ok]; rfl
theorem op_next_nil (hx : (putsL a l).eval x = ptr r 0) (I : It0 w r) (h : wpList P ops Q rest (putsL a ((d, .tuple #[.bool false]) :: l)) w) :
    wpList P ops Q (⟨some d, .next x false, ty, p, af, none⟩ :: rest) (putsL a l) w := by
  obtain ⟨a9, b9, s9, hr⟩ := I
  have hrun : (Instr.next (.pointer (some ⟨r, 0, none⟩)) false ty).run P w = .ok (.tuple #[.bool false]) w := by
    simp only [Instr.next, getObj, Sem.run_bind, Sem.run, hr, Result.andThen]
    rfl
  refine op_gen (w' := w) (v := .tuple #[.bool false]) rfl (by simp only [execOp, hx, Sem.run_bind]; unfold ptr; simp [hrun, Result.andThen]) h
end
end Go.Gx

namespace Go.Proofs.Ytmhdbphpmgjpcaa
open Go.Gx Go.RowKit
theorem pw_len {α : Type} [DecidableEq α] : ∀ {l m : List α}, l.Nodup → (∀ x ∈ l, x ∈ m) → l.length ≤ m.length
  | [], _, _, _ => Nat.zero_le _
  | a :: l, m, hn, h => by
    have ha := h a (by simp)
    have := pw_len (l := l) (m := m.erase a) (List.nodup_cons.1 hn).2 fun x hx => by
      have hne : x ≠ a := fun e => (List.nodup_cons.1 hn).1 (by rw [← e]; exact hx)
      exact (List.mem_erase_of_ne hne).2 (h x (by simp [hx]))
    rw [List.length_erase_of_mem ha] at this
    have := List.length_pos_of_mem ha
    simp only [List.length_cons]; omega
def pick {V : Type} [Inhabited V] (M : List (Int × V)) (D : List Nat) : List (Int × V) := D.map (fun i => M.getD i default)
section
variable {V : Type} [Inhabited V] {M : List (Int × V)} {D : List Nat} {i : Nat} {k : Int} {v : V}
theorem pick_at (hi : M[i]? = some (k, v)) : M.getD i default = (k, v) := by rw [List.getD_eq_getElem?_getD, hi]; rfl
theorem pick_put (hM : (M.map Prod.fst).Nodup) (hi : M[i]? = some (k, v)) (hn : i ∉ D) (hlt : ∀ j ∈ D, j < M.length) : mput (pick M D) k v = pick M (D ++ [i]) := by
  have hk : k ∉ (pick M D).map Prod.fst := fun h => by
    unfold pick at h
    rw [List.map_map] at h
    obtain ⟨j, hj, hq⟩ := List.mem_map.1 h
    have hjl := hlt j hj
    have g1 : (M.map Prod.fst)[i]? = some k := by rw [List.getElem?_map, hi]; rfl
    have g2 : (M.map Prod.fst)[j]? = some k := by
      rw [List.getElem?_map, List.getElem?_eq_getElem hjl]
      simp only [Function.comp, List.getD_eq_getElem?_getD, List.getElem?_eq_getElem hjl, Option.getD_some] at hq
      rw [← hq]; rfl
    exact hn (nodup_inj hM g1 g2 ▸ hj)
  unfold mput
  rw [mlook_none.2 hk]
  show _ = (D ++ [i]).map _
  rw [List.map_append, List.map_cons, List.map_nil, pick_at hi]; rfl
omit [Inhabited V] in
theorem pick_lt (hd : (D ++ [i]).Nodup) (hlt : ∀ j ∈ D ++ [i], j < M.length) : D.length < M.length := by
  have := pw_len (m := List.range M.length) hd fun j hj => List.mem_range.2 (hlt j hj)
  simp at this; omega
theorem pick_perm (hd : D.Nodup) (hlt : ∀ j ∈ D, j < M.length) (hall : ∀ i, i < M.length → i ∈ D) : (pick M D).Perm M := by
  have hp : D.Perm (List.range M.length) := (List.perm_ext_iff_of_nodup hd List.nodup_range).2 fun j => ⟨fun h => List.mem_range.2 (hlt j h), fun h => hall j (List.mem_range.1 h)⟩
  have h1 := hp.map (fun i => M.getD i default)
  have e : (List.range M.length).map (fun i => M.getD i default) = M := by
    apply List.ext_getElem?
    intro j
    rw [List.getElem?_map]
    by_cases hj : j < M.length
    · rw [List.getElem?_range hj, List.getElem?_eq_getElem hj]; simp [hj]
    · rw [List.getElem?_eq_none (by simpa using hj), List.getElem?_eq_none (by omega)]; rfl
  rw [e] at h1; exact h1
end

section
open Go.MapKept
variable {K V : Type} {kv : K → Value} {vv : V → Value} {w w' : World} {r m b t e sz n base p k : Nat} {es : List (K × V)} {Dd : List Nat} {F : Nat → Prop} {v : Value} {cs : List Value} {T : TX} {c : TC} {M : TM} {C : List TC}
theorem Bx.notIt (B : Bx w b t cs) (h : ItC kv vv w r m es Dd) : b ≠ r := by
  obtain ⟨arr, clock, since, seen, h, _⟩ := h
  intro q; subst q; have := B.symm.trans h; simp at this
theorem It_ne {K2 V2 : Type} {kv2 : K2 → Value} {vv2 : V2 → Value} {m2 : Nat} {es2 : List (K2 × V2)} (M : MapC kv2 vv2 w m2 es2) (h : ItC kv vv w r m es Dd) : m2 ≠ r := by
  obtain ⟨arr, clock, since, seen, h, _⟩ := h
  obtain ⟨_, _, h2, _⟩ := M
  intro q; subst q; have := h2.symm.trans h; simp at this
theorem Own.notIt (O : Own w base e sz v n cs) (h : ItC kv vv w r m es Dd) : ¬ Bl v r := by
  obtain ⟨arr, clock, since, seen, h, _⟩ := h
  intro hx
  rcases O.2 with ⟨rfl, _⟩ | ⟨g, off, cap, cur, fr, rfl, hb, hg, _⟩
  · cases hx
  · injection hx with hx
    subst hx
    have := hg.symm.trans h; simp at this
theorem _root_.Go.Gx.TxAt.notIt (h : TxAt w base T c) (I : ItC kv vv w r m es Dd) : ¬ PartT c r := fun hf => by
  obtain ⟨_, h1, h2, h3, h4, h5, _⟩ := h
  rcases hf with hf | hf | hf | hf | ⟨q, hq, hf⟩
  · exact Bx.notIt h1 I hf.symm
  · exact Own.notIt h2 I hf
  · exact Own.notIt h3 I hf
  · exact Own.notIt h5 I hf
  · exact Own.notIt (h4 _ (List.mem_map.2 ⟨q, hq, rfl⟩)) I hf
theorem _root_.Go.Gx.LkAll.notIt (h : LkAll w base M C F) (I : ItC kv vv w r m es Dd) : ¬ F r := fun hf => by
  obtain ⟨i, hi, hf⟩ := (h.2.2.2 r).1 hf
  exact TxAt.notIt (h.2.1 i hi) I hf
end
section
variable {M : TM} {C C2 : List TC} {Dd : List Nat} {i p : Nat} {k : Int} {w : World} {base B : Nat} {F FC : Nat → Prop} {c : TC} {T : TX}
theorem pick_snoc {V : Type} [Inhabited V] {M : List (Int × V)} {v : V} (hi : M[i]? = some (k, v)) : pick M (Dd ++ [i]) = pick M Dd ++ [(k, v)] := by
  unfold pick
  rw [List.map_append, List.map_cons, List.map_nil]
  congr 1
  rw [List.getD_eq_getElem?_getD, hi]; rfl
theorem pick_len {V : Type} [Inhabited V] {M : List (Int × V)} : (pick M Dd).length = Dd.length := by unfold pick; simp
theorem esOf_at (hl : C.length = M.length) (hi : (esOf M C)[i]? = some (k, p)) : ∃ T la rv wv D, i < M.length ∧ M[i]? = some (k, T) ∧ M.getD i default = (k, T) ∧ C.getD i default = ⟨p, la, rv, wv, D⟩ := by
  unfold esOf at hi
  rw [List.getElem?_zipWith] at hi
  cases h1 : M[i]? with
  | none => rw [h1] at hi; simp at hi
  | some a =>
    cases h2 : C[i]? with
    | none => rw [h1, h2] at hi; simp at hi
    | some b =>
      rw [h1, h2] at hi
      simp only [Option.some.injEq, Prod.mk.injEq] at hi
      obtain ⟨e1, e2⟩ := hi
      subst e1 e2
      refine ⟨a.2, b.la, b.rv, b.wv, b.D, (List.getElem?_eq_some_iff.1 h1).1, rfl, ?_, ?_⟩
      · rw [List.getD_eq_getElem?_getD, h1]; rfl
      · rw [List.getD_eq_getElem?_getD, h2]; rfl
theorem esOf_put (hn : (M.map Prod.fst).Nodup) (hi : M[i]? = some (k, T)) (hd : i ∉ Dd) (hlt : ∀ j ∈ Dd, j < M.length) (hc : C2.length = Dd.length) : mput (esOf (pick M Dd) C2) k c.p = esOf (pick M (Dd ++ [i])) (C2 ++ [c]) := by
  have h1 := pick_put hn hi hd hlt
  have hk : mlook (pick M Dd) k = none := by
    cases h : mlook (pick M Dd) k with
    | none => rfl
    | some q =>
      exfalso
      have h2 := congrArg List.length h1
      unfold mput at h2
      rw [h] at h2
      rw [pick_snoc hi] at h2
      simp at h2
  have hl : C2.length = (pick M Dd).length := by rw [pick_len, hc]
  unfold mput
  rw [esOf_look hl, hk, pick_snoc hi, esOf_snoc hl]; rfl
def FCin (B : Nat) (C : List TC) (Dd : List Nat) (FC : Nat → Prop) : Prop := ∀ x, FC x → B ≤ x ∨ ∃ j ∈ Dd, j < C.length ∧ PartT (C.getD j default) x
theorem FCin.nil : FCin B C [] NoB := fun _ h => h.elim
theorem FCin.apart {w0 : World} (h : FCin B C Dd FC) (hA : LkAll w base M C F) (hF : ∀ x, F x → x < B) (hi : i < M.length) (hd : i ∉ Dd) (hlt : ∀ j ∈ Dd, j < M.length) (hp : ∀ x, PartT c x → w0.heap.size ≤ x ∧ ¬ FC x ∨ PartT (C.getD i default) x) : Dj FC (PartT c) := fun x hx hc => by
  rcases hp x hc with q | q
  · exact q.2 hx
  · rcases h x hx with q2 | ⟨j, hj, _, q2⟩
    · have := hF x ((hA.2.2.2 x).2 ⟨i, hi, q⟩); omega
    · exact hA.2.2.1 i j hi (hlt j hj) (fun e => hd (e ▸ hj)) x q q2
theorem FCin.step (h : FCin B C Dd FC) (hi : i < C.length) (hp : ∀ x, PartT c x → B ≤ x ∨ PartT (C.getD i default) x) : FCin B C (Dd ++ [i]) (fun x => FC x ∨ PartT c x) := fun x hx => by
  rcases hx with hx | hx
  · exact (h x hx).imp id fun ⟨j, hj, hl, q⟩ => ⟨j, List.mem_append.2 (.inl hj), hl, q⟩
  · exact (hp x hx).imp id fun q => ⟨i, List.mem_append.2 (.inr (by simp)), hi, q⟩
end
end Go.Proofs.Ytmhdbphpmgjpcaa

namespace Go.Proofs.Ytmhdbphpmgjpcaa
open Go.Gx Go.RowKit
attribute [local irreducible] wpList wpStill Code.wp Calls

end Go.Proofs.Ytmhdbphpmgjpcaa

namespace Go.Gx
section
variable {P : Program} {Q : Exit → Act → World → Prop} {a : Act} {w w' : World} {l : List (Nat × Value)} {ops : Array Oper} {rest : List Oper}
variable {d ty xt yt t e : Nat} {p : String} {af : Array Edge} {x y z : Operand} {v u : Value} {k : IntKind} {m n r : Int}
theorem op_fnc {f : FuncId} {as9 : List Operand} {ts : Array Nat} {vs : List Value} {R : Value → World → Prop} (hf : callOk P f = true) (hc : Ret P f vs.toArray w R) (hm : argsEv (putsL a l).eval as9 vs)
    (h : ∀ v w', R v w' → wpList P ops Q rest (putsL a ((d, v) :: l)) w') : wpList P ops Q (⟨some d, .call ⟨.value (.func f), as9.toArray, ts⟩, ty, p, af, none⟩ :: rest) (putsL a l) w := op_fn hf hm hc h
theorem op_storeA {b s T : Nat} {vs cs : List Value} (ht : (P.info? t).map (·.size) = some s) (hx : (putsL a l).eval x = ptr b 0) (hy : (putsL a l).eval y = .agg vs.toArray) (hs : vs.length = s) (h1 : vs.all Value.oneCell' = true) (hb : Bx w b T cs) (hl : vs.length = cs.length)
    (h : ∀ w', Bx w' b T vs → w.grownBy w' (some b) → wpList P ops Q rest (putsL a l) w') : wpList P ops Q (⟨none, .store t x y, ty, p, af, none⟩ :: rest) (putsL a l) w :=
  op_store ht hx hy (by simp [Value.cells]) hs h1 hb (by omega) (by simp [hl]) h
theorem op_loadB {s b T : Nat} {cs : List Value} (ht : aggT P xt = some s) (hl : cs.length = s) (hx : (putsL a l).eval x = ptr b 0) (hB : Bx w b T cs) (h : wpList P ops Q rest (putsL a ((d, .agg cs.toArray) :: l)) w) :
    wpList P ops Q (⟨some d, .load xt x, ty, p, af, none⟩ :: rest) (putsL a l) w :=
  op_loadA ht hl hx (fun j u hu => by rw [Nat.zero_add]; exact hB.cell hu) h
end
section
variable {b L B p : Nat}
theorem sR (h : B ≤ b := by omega) : ∀ k, some b = some k → k < L ∨ B ≤ k := fun k hk => by obtain rfl := Option.some.inj hk; exact .inr h
theorem sO (h : b < L ∨ B ≤ b := by omega) : ∀ k, some b = some k → k < L ∨ B ≤ k := fun k hk => by obtain rfl := Option.some.inj hk; exact h
theorem sP (h : p < L ∨ B ≤ p := by omega) : ∀ k, k = p → k < L ∨ B ≤ k := fun k hk => by subst hk; exact h
theorem sB {c : Nat} (h : b ≠ c := by omega) : some b ≠ some c := fun e => h (Option.some.inj e)
theorem sN {w : World} {c t u : Nat} {cs ds : List Value} (h : Bx w b t cs) (h0 : Bx w c u ds) (hn : t ≠ u := by decide) : some b ≠ some c := fun hh => by
  obtain rfl := Option.some.inj hh
  have := h.symm.trans h0
  simp at this
  exact hn this.2
end
theorem kb2 {w w' : World} {b0 t0 : Nat} {c0 : List Value} {b1 t1 : Nat} {c1 : List Value} (E : w.grownBy w' none) (h0 : Bx w b0 t0 c0) (h1 : Bx w b1 t1 c1) : Bx w' b0 t0 c0 ∧ Bx w' b1 t1 c1 := ⟨h0.keep0 E, h1.keep0 E⟩
theorem kb3 {w w' : World} {b0 t0 : Nat} {c0 : List Value} {b1 t1 : Nat} {c1 : List Value} {b2 t2 : Nat} {c2 : List Value} (E : w.grownBy w' none) (h0 : Bx w b0 t0 c0) (h1 : Bx w b1 t1 c1) (h2 : Bx w b2 t2 c2) : Bx w' b0 t0 c0 ∧ Bx w' b1 t1 c1 ∧ Bx w' b2 t2 c2 := ⟨h0.keep0 E, h1.keep0 E, h2.keep0 E⟩
theorem kb4 {w w' : World} {b0 t0 : Nat} {c0 : List Value} {b1 t1 : Nat} {c1 : List Value} {b2 t2 : Nat} {c2 : List Value} {b3 t3 : Nat} {c3 : List Value} (E : w.grownBy w' none) (h0 : Bx w b0 t0 c0) (h1 : Bx w b1 t1 c1) (h2 : Bx w b2 t2 c2) (h3 : Bx w b3 t3 c3) : Bx w' b0 t0 c0 ∧ Bx w' b1 t1 c1 ∧ Bx w' b2 t2 c2 ∧ Bx w' b3 t3 c3 := ⟨h0.keep0 E, h1.keep0 E, h2.keep0 E, h3.keep0 E⟩
theorem kb5 {w w' : World} {b0 t0 : Nat} {c0 : List Value} {b1 t1 : Nat} {c1 : List Value} {b2 t2 : Nat} {c2 : List Value} {b3 t3 : Nat} {c3 : List Value} {b4 t4 : Nat} {c4 : List Value} (E : w.grownBy w' none) (h0 : Bx w b0 t0 c0) (h1 : Bx w b1 t1 c1) (h2 : Bx w b2 t2 c2) (h3 : Bx w b3 t3 c3) (h4 : Bx w b4 t4 c4) : Bx w' b0 t0 c0 ∧ Bx w' b1 t1 c1 ∧ Bx w' b2 t2 c2 ∧ Bx w' b3 t3 c3 ∧ Bx w' b4 t4 c4 := ⟨h0.keep0 E, h1.keep0 E, h2.keep0 E, h3.keep0 E, h4.keep0 E⟩
theorem kb6 {w w' : World} {b0 t0 : Nat} {c0 : List Value} {b1 t1 : Nat} {c1 : List Value} {b2 t2 : Nat} {c2 : List Value} {b3 t3 : Nat} {c3 : List Value} {b4 t4 : Nat} {c4 : List Value} {b5 t5 : Nat} {c5 : List Value} (E : w.grownBy w' none) (h0 : Bx w b0 t0 c0) (h1 : Bx w b1 t1 c1) (h2 : Bx w b2 t2 c2) (h3 : Bx w b3 t3 c3) (h4 : Bx w b4 t4 c4) (h5 : Bx w b5 t5 c5) : Bx w' b0 t0 c0 ∧ Bx w' b1 t1 c1 ∧ Bx w' b2 t2 c2 ∧ Bx w' b3 t3 c3 ∧ Bx w' b4 t4 c4 ∧ Bx w' b5 t5 c5 := ⟨h0.keep0 E, h1.keep0 E, h2.keep0 E, h3.keep0 E, h4.keep0 E, h5.keep0 E⟩
theorem zx {p : Prop} (h : p := by omega) : p := h
theorem zy {p : Prop} (h : p := by kernel_rfl) : p := h
theorem zz {p : Prop} (h : p := by decide) : p := h
open Go.RowKit in
theorem yE {w w1 w2 : World} (h : Below w.heap.size w w1) (E : w1.grownBy w2 none) : Below w.heap.size w w2 ∧ w1.heap.size ≤ w2.heap.size := ⟨below_step0 h E h.size, E.size⟩
theorem yG {w w1 w2 : World} {F : Nat → Prop} (h : Gr w w1 F) (E : w1.grownBy w2 none) : Gr w w2 F ∧ w1.heap.size ≤ w2.heap.size := ⟨h.step0 E, E.size⟩
theorem yA : type_of% @List.all_cons := @List.all_cons
theorem yB : type_of% @List.all_nil := @List.all_nil
theorem yC : type_of% @Bool.true_and := @Bool.true_and
theorem yD : type_of% @Bool.and_true := @Bool.and_true
theorem zA : type_of% @ev_hit := @ev_hit
theorem zB : type_of% @reg_nil := @reg_nil
theorem zC : type_of% @ev_base := @ev_base
theorem zD : type_of% @op_assign := @op_assign
theorem zE {α : Type} {a b : α} (h : some a = some b) : a = b := Option.some.inj h
theorem zF : type_of% @seq_any := @seq_any
theorem zG : type_of% @op_move := @op_move
theorem zH : type_of% @one_reg := @one_reg
theorem zI : type_of% @Nat.le_of_ble_eq_true := @Nat.le_of_ble_eq_true
theorem zL : type_of% @sl_base := @sl_base
theorem zM : type_of% @op_field := @op_field
theorem zN : type_of% @op_load1 := @op_load1
theorem zO : type_of% @then_ret := @then_ret
theorem zP : type_of% @below_step0 := @below_step0
theorem zQ : type_of% @grown_of_below := @grown_of_below
theorem zR : type_of% @g_false := @g_false
theorem zS : type_of% @g_true := @g_true
theorem zU : type_of% @sl_hit := @sl_hit
theorem zW : type_of% @op_extract := @op_extract
theorem zX : type_of% @op_loadA := @op_loadA
theorem zY : type_of% @op_loadB := @op_loadB
theorem zZ : type_of% @op_storeA := @op_storeA
theorem za : type_of% @op_store := @op_store
theorem zb : type_of% @blk_ret := @blk_ret
theorem zc : type_of% @op_pick_t := @op_pick_t
theorem zd : type_of% @op_pick_f := @op_pick_f
theorem ze : type_of% @op_fn := @op_fn
theorem zf : type_of% @op_build := @op_build
theorem zg : type_of% @loop_next := @loop_next
theorem zh : type_of% @op_index_rd := @op_index_rd
theorem zi : type_of% @Gr.of0 := @Gr.of0
theorem zj : type_of% @op_fnc := @op_fnc
end Go.Gx

namespace Go.Proofs.Ytmhdbphpmgjpcaa
open Go.Gx Go.RowKit
attribute [local irreducible] wpList wpStill Code.wp Calls

theorem Clone_s (l : List (List UInt8)) (v : Value) (w : World) (hz : l.length ≤ 1000000000000) (hl : RdC w 0 w.heap.size 1 v l.length (l.map sv)) : Ret Try.prog 72 #[v] w (fun v' w' => Below w.heap.size w w' ∧ Own w' w.heap.size 9 1 v' l.length (l.map sv)) := by
 have hb := Below.refl w.heap.size w
 refine enter (N := 8) Try.func72 rfl rfl (by simp) fun a hN hd hA => ?_
 have b : a.tmps.getD 0 undef = v := hA 0 (by simp)
 clear hA
 refine zF fun _ a => zH (zD rfl (zB (a _ _ (zF fun _ a => zF fun _ c => zH (zG (zC hN rfl b) (op_eql_nil slt26 (zA hN rfl) rfl hl (fun d => ?_) ?_))))))
 ·
  refine zB (c _ _ (wp_cond_true (zA hN rfl) (zF fun _ c => zH (zD rfl (zB (c _ _ (wp_ret (zO ( (ret1 rfl hd (zA hN rfl) ⟨_, rfl, ?_⟩))))))))))
  exact ⟨hb, by rw [List.length_eq_zero_iff.1 d]; exact Own.nil _ _ _ _⟩
 refine zB (c _ _ (wp_cond_false (zA hN rfl) (wp_skip (a _ _ (zF fun _ a => zH (op_bslice (e := 9) (pv := []) (cs := []) trivial zy ?_))))))
 intro f h j g d c
 obtain ⟨hb, _⟩ := yE hb c
 have hl := hl.keep0 c
 refine zG (zC hN rfl b) ?_
 have b := (Own.ofBx (base := w.heap.size) (sz := 1) (n := 0) d rfl zz zx)
 refine op_append slt26 (zA hN rfl) b (zA hN rfl) (Src.ofRd Try.underlying26 zz hl (one_sv _)) (by unfold maxLen; omega) zx hb.size ?_
 intro f g c d h
 have := d.size
 have hl := hl.keepO b d zx
 have hb := below_stepO hb b d hb.size zx
 have c : Own g w.heap.size 9 1 f (0 + l.length) ((l).map sv) := by simpa [u8v, u16v, sv] using c
 refine zD (zA hN rfl) (zB (a _ _ (wp_ret (ret1 rfl hd (zA hN rfl) ⟨_, rfl, ?_⟩))))
 exact ⟨hb, c.cast (by simp) (by simp)⟩

end Go.Proofs.Ytmhdbphpmgjpcaa

namespace Go.Proofs.Ytmhdbphpmgjpcaa
open Go.Gx Go.RowKit

end Go.Proofs.Ytmhdbphpmgjpcaa

namespace Go.Proofs.Ytmhdbphpmgjpcaa
open Go.Gx Go.RowKit
attribute [local irreducible] wpList wpStill Code.wp Calls

end Go.Proofs.Ytmhdbphpmgjpcaa

namespace Go.Proofs.Ytmhdbphpmgjpcaa
open Go.Gx Go.RowKit

end Go.Proofs.Ytmhdbphpmgjpcaa

namespace Go.Proofs.Ytmhdbphpmgjpcaa
open Go.Gx Go.RowKit
attribute [local irreducible] wpList wpStill Code.wp Calls

theorem isNaN16_ret (m : UInt16) (w : World) : Ret Try.prog 151 #[(.int .u16 (m.toNat : Int))] w (fun v' w' => v' = .bool false ∧ w' = w) := by
 refine enter (N := 6) Try.func151 rfl rfl (by simp) fun a hN hd hA => ?_
 have b : a.tmps.getD 0 undef = (.int .u16 (m.toNat : Int)) := hA 0 (by simp)
 clear hA
 refine zF fun _ a => zH (zD rfl (zB (a _ _ (zF fun _ a => zH (zG (zC hN rfl b) (zG (zC hN rfl b) (op_neq (zA hN rfl) (zA hN rfl) (fun c => ?_) (fun c => ?_))))))))
 ·
  refine zD (zA hN rfl) (zB (a _ _ (wp_ret (ret1 rfl hd (zA hN rfl) ⟨_, rfl, ?_⟩))))
  exact (c rfl).elim
 refine zD (zA hN rfl) (zB (a _ _ (wp_ret (ret1 rfl hd (zA hN rfl) ⟨_, rfl, ?_⟩))))
 exact ⟨rfl, rfl⟩
open Go.Sort (insertionSort insOuter insInner swp siftDown heapSort heapBuild heapPop scanUp scanDown partition partLoop partitionEqual partEqLoop scanSorted partialIns bitsLen partialInsertionSort shiftDown shiftUp SortedIn reverseRange reverseLoop fixDown fixUp)
open Go.Sort (insertionSort insOuter insInner swp siftDown heapSort heapBuild heapPop scanUp scanDown partition partLoop partitionEqual partEqLoop scanSorted partialIns bitsLen partialInsertionSort shiftDown shiftUp SortedIn reverseRange reverseLoop fixDown fixUp)
open Go.Sort (insertionSort insOuter insInner swp siftDown heapSort heapBuild heapPop scanUp scanDown partition partLoop partitionEqual partEqLoop scanSorted partialIns bitsLen partialInsertionSort shiftDown shiftUp SortedIn reverseRange reverseLoop fixDown fixUp)
open Go.Sort (insertionSort insOuter insInner swp siftDown heapSort heapBuild heapPop scanUp scanDown partition partLoop partitionEqual partEqLoop scanSorted partialIns bitsLen partialInsertionSort shiftDown shiftUp SortedIn reverseRange reverseLoop fixDown fixUp)
open Go.Sort (insertionSort insOuter insInner swp siftDown heapSort heapBuild heapPop scanUp scanDown partition partLoop partitionEqual partEqLoop scanSorted partialIns bitsLen partialInsertionSort shiftDown shiftUp SortedIn reverseRange reverseLoop fixDown fixUp)
open Go.Sort (insertionSort insOuter insInner swp siftDown heapSort heapBuild heapPop scanUp scanDown partition partLoop partitionEqual partEqLoop scanSorted partialIns bitsLen partialInsertionSort shiftDown shiftUp SortedIn reverseRange reverseLoop fixDown fixUp)
open Go.Sort (insertionSort insOuter insInner swp siftDown heapSort heapBuild heapPop scanUp scanDown partition partLoop partitionEqual partEqLoop scanSorted partialIns bitsLen partialInsertionSort shiftDown shiftUp SortedIn reverseRange reverseLoop fixDown fixUp)
open Go.Sort (insertionSort insOuter insInner swp siftDown heapSort heapBuild heapPop scanUp scanDown partition partLoop partitionEqual partEqLoop scanSorted partialIns bitsLen partialInsertionSort shiftDown shiftUp SortedIn reverseRange reverseLoop fixDown fixUp)
open Go.Sort (insertionSort insOuter insInner swp siftDown heapSort heapBuild heapPop scanUp scanDown partition partLoop partitionEqual partEqLoop scanSorted partialIns bitsLen partialInsertionSort shiftDown shiftUp SortedIn reverseRange reverseLoop fixDown fixUp)
open Go.Sort (insertionSort insOuter insInner swp siftDown heapSort heapBuild heapPop scanUp scanDown partition partLoop partitionEqual partEqLoop scanSorted partialIns bitsLen partialInsertionSort shiftDown shiftUp SortedIn reverseRange reverseLoop fixDown fixUp)
open Go.Sort (insertionSort insOuter insInner swp siftDown heapSort heapBuild heapPop scanUp scanDown partition partLoop partitionEqual partEqLoop scanSorted partialIns bitsLen partialInsertionSort shiftDown shiftUp SortedIn reverseRange reverseLoop fixDown fixUp)
open Go.Sort (insertionSort insOuter insInner swp siftDown heapSort heapBuild heapPop scanUp scanDown partition partLoop partitionEqual partEqLoop scanSorted partialIns bitsLen partialInsertionSort shiftDown shiftUp SortedIn reverseRange reverseLoop fixDown fixUp)
open Go.Sort (insertionSort insOuter insInner swp siftDown heapSort heapBuild heapPop scanUp scanDown partition partLoop partitionEqual partEqLoop scanSorted partialIns bitsLen partialInsertionSort shiftDown shiftUp SortedIn reverseRange reverseLoop fixDown fixUp)

theorem CloneL (l : List UInt16) (v : Value) (w : World) (hz : l.length ≤ 1000000000000) (hl : RdC w 0 w.heap.size 1 v l.length (l.map u16v)) : Ret Try.prog 77 #[v] w (fun v' w' => Below w.heap.size w w' ∧ Own w' w.heap.size 46 1 v' l.length (l.map u16v)) := by
 have hb := Below.refl w.heap.size w
 refine enter (N := 8) Try.func77 rfl rfl (by simp) fun a hN hd hA => ?_
 have b : a.tmps.getD 0 undef = v := hA 0 (by simp)
 clear hA
 refine zF fun _ a => zH (zD rfl (zB (a _ _ (zF fun _ a => zF fun _ c => zH (zG (zC hN rfl b) (op_eql_nil slt54 (zA hN rfl) rfl hl (fun d => ?_) ?_))))))
 ·
  refine zB (c _ _ (wp_cond_true (zA hN rfl) (zF fun _ c => zH (zD rfl (zB (c _ _ (wp_ret (zO ( (ret1 rfl hd (zA hN rfl) ⟨_, rfl, ?_⟩))))))))))
  exact ⟨hb, by rw [List.length_eq_zero_iff.1 d]; exact Own.nil _ _ _ _⟩
 refine zB (c _ _ (wp_cond_false (zA hN rfl) (wp_skip (a _ _ (zF fun _ a => zH (op_bslice (e := 46) (pv := []) (cs := []) trivial zy ?_))))))
 intro f h j g d c
 obtain ⟨hb, _⟩ := yE hb c
 have hl := hl.keep0 c
 refine zG (zC hN rfl b) ?_
 have b := (Own.ofBx (base := w.heap.size) (sz := 1) (n := 0) d rfl zz zx)
 refine op_append slt54 (zA hN rfl) b (zA hN rfl) (Src.ofRd Try.underlying54 zz hl (one_u16 _)) (by unfold maxLen; omega) zx hb.size ?_
 intro f g c d h
 have := d.size
 have hl := hl.keepO b d zx
 have hb := below_stepO hb b d hb.size zx
 have c : Own g w.heap.size 46 1 f (0 + l.length) ((l).map u16v) := by simpa [u8v, u16v, sv] using c
 refine zD (zA hN rfl) (zB (a _ _ (wp_ret (ret1 rfl hd (zA hN rfl) ⟨_, rfl, ?_⟩))))
 exact ⟨hb, c.cast (by simp) (by simp)⟩

end Go.Proofs.Ytmhdbphpmgjpcaa

namespace Go.Gx
open Go.RowKit
section
variable {P : Program} {Q : Exit → Act → World → Prop} {a : Act} {w w' : World} {l : List (Nat × Value)} {ops : Array Oper} {rest : List Oper}
variable {d ty t e xt yt : Nat} {p : String} {af : Array Edge} {x y : Operand} {b off : Nat}
end
end Go.Gx

namespace Go.Gx
open Go.RowKit
section
variable {P : Program} {Q : Exit → Act → World → Prop} {a : Act} {w : World} {l : List (Nat × Value)} {ops : Array Oper} {rest : List Oper}
variable {d ty : Nat} {p : String} {af : Array Edge}
theorem op_mkfn1 {f : FuncId} {fo co : List Operand} {fv cv : List Value} (hf : argsEv (putsL a l).eval fo fv) (hm : argsEv (putsL a l).eval co cv) (h : wpList P ops Q rest (putsL a ((d, .func (.func f) fv.toArray cv.toArray) :: l)) w) :
    wpList P ops Q (⟨some d, .makeFunc (.func f) fo.toArray co.toArray, ty, p, af, none⟩ :: rest) (putsL a l) w :=
  op_gen rfl (by
    simp only [execOp]
    rw [List.map_toArray, argsEv_map hf, List.map_toArray, argsEv_map hm]
    rfl) h
end
section
variable {K V : Type} {P : Program} {Q : Exit → Act → World → Prop} {a : Act} {w w' : World} {l : List (Nat × Value)} {ops : Array Oper} {rest : List Oper}
variable {ty mt kt et m : Nat} {p : String} {af : Array Edge} {x y : Operand} {kv : K → Value} {vv : V → Value} {es : List (K × V)} {k : K}
theorem op_mapdel0 [DecidableEq K] (ht : P.underlying mt = some (.map kt et)) (T : KeyT P kt kv) (hx : (putsL a l).eval x = .map (some m)) (hy : (putsL a l).eval y = kv k) (M : MapC kv vv w m es) (h : ∀ w', MapC kv vv w' m (mdel es k) → w.grownBy w' (some m) → wpList P ops Q rest (putsL a l) w') :
    wpList P ops Q (⟨none, .call ⟨.builtin .delete, #[x, y], #[mt, kt]⟩, ty, p, af, none⟩ :: rest) (putsL a l) w := by
  obtain ⟨w', hr, M', E⟩ := run_delete (P := P) (ty := ty) ht T M k
  exact op_gen (w' := w') (v := .tuple #[]) rfl (by simp [execOp, hx, hy, resolve, invoke, builtin, hr]) (h w' M' E)
end
theorem rd_len {w : World} {L B sz n : Nat} {v : Value} {cs : List Value} (h : RdC w L B sz v n cs) : n ≤ 9223372036854775807 := by obtain ⟨_, _, _, _, hq, hm, _⟩ := h; exact Nat.le_trans hq hm
theorem idx_t {n : Int} {b : Bool} (h : 0 ≤ n ↔ b = true) (c : 0 ≤ n) : true = b := (h.1 c).symm
theorem idx_f {n : Int} {b : Bool} (h : 0 ≤ n ↔ b = true) (c : ¬ 0 ≤ n) : false = b := by
  cases b with
  | false => rfl
  | true => exact absurd (h.2 rfl) c
theorem any_step {α : Type} {L : List α} {p : α → Bool} {i : Nat} {d : α} (hi : i < L.length) (h : (L.take i).any p = false) (h2 : p (L.getD i d) = false) : (L.take (i + 1)).any p = false := by
  have e : L.take (i + 1) = L.take i ++ [L.getD i d] := by simp [List.getD_eq_getElem?_getD, hi]
  rw [e, List.any_append, h, List.any_cons, h2]; rfl
theorem any_hit {α : Type} {L : List α} {p : α → Bool} {i : Nat} {d : α} (hi : i < L.length) (h2 : p (L.getD i d) = true) : L.any p = true := by
  rw [List.any_eq_true]; exact ⟨_, getD_mem hi, h2⟩
theorem any_end {α : Type} {L : List α} {p : α → Bool} {i : Nat} (hi : L.length ≤ i) (h : (L.take i).any p = false) : L.any p = false := by
  rw [List.take_of_length_le hi] at h; exact h
end Go.Gx

namespace Go.Proofs.Ytmhdbphpmgjpcaa
open Go.Gx Go.RowKit
attribute [local irreducible] wpList wpStill Code.wp Calls

theorem IdxF_s {L : List (List UInt8)} {v : Value} {p : (List UInt8) → Bool} {w : World} (hl : RdC w 0 w.heap.size 1 v L.length (L.map sv)) {g : Nat} {fs cs : List Value} (hokg : callOk Try.prog g = true) (hf : ∀ i, i < L.length → ∀ w1, Below w.heap.size w w1 → Ret Try.prog g (fs ++ [Value.string (bs (L.getD i []))] ++ cs).toArray w1 (fun v' w' => Below w1.heap.size w1 w' ∧ v' = .bool (p (L.getD i [])))) : Ret Try.prog 141 #[v, (Value.func (.func g) fs.toArray cs.toArray)] w (fun v' w' => Below w.heap.size w w' ∧ ∃ n : Int, v' = .int .i64 n ∧ (0 ≤ n ↔ L.any p = true)) := by
 have hlm := rd_len hl
 have hb := Below.refl w.heap.size w
 refine enter (N := 19) Try.func141 rfl rfl (by simp) fun a hN hd hA => ?_
 have b : a.tmps.getD 0 undef = v := hA 0 (by simp)
 have c : a.tmps.getD 1 undef = (.func (.func g) fs.toArray cs.toArray) := hA 1 (by simp)
 clear hA
 refine zF fun _ a => zH (zD rfl ?_)
 refine zB (a _ _ (zF fun _ a => zF fun _ d => zH (zG (zC hN rfl b) (op_len_rd Try.underlying26 (zA hN rfl) hl (zG rfl (zB (d _ _ (wp_block (loop_m (fun mz_ az_ w' => ∃ (i : Nat), mz_ = L.length - i ∧ (Sl az_ 0 v) ∧ (Sl az_ 1 (.func (.func g) fs.toArray cs.toArray)) ∧ (Sl az_ 7 (.int .i64 ((L.length : Nat) : Int))) ∧ (Sl az_ 8 (.int .i64 ((i : Nat) : Int))) ∧ (i ≤ L.length) ∧ ((L.take i).any p = false) ∧ (Below w.heap.size w w') ∧ (w.heap.size ≤ w'.heap.size) ∧ (RdC w' 0 w.heap.size 1 v L.length (L.map sv))) _ hN hd ⟨0, rfl, (zL hN rfl b), (zL hN rfl c), (zU hN rfl), (zU hN rfl), (Nat.zero_le _), rfl, hb, (Nat.le_refl _), hl⟩ ?_)))))))))
 rintro _ m w1 b c ⟨i, rfl, f, j, k, e, hi, hnone, hb, l, hl⟩
 have := hb.size
 refine zF fun _ d => zH (op_lss (zC b rfl e) (zC b rfl k) (fun l => ?_) (fun l => ?_))
 ·
  refine zB (d _ _ (zF fun _ d => wp_cond_true (zA b rfl) (wp_skip (d _ _ (zF fun _ d => wp_block (zF fun _ l => ?_))))))
  refine zH (zG (zC b rfl e) (zD (zA b rfl) (zB (l _ _ (zF fun _ l => zH (zG (zC b rfl j) (zG (zC b rfl f) (zG (zA b rfl) (zh slt26 (zA b rfl) hl (zA b rfl) zx zx ?_)))))))))
  intro s o q r m
  refine zN (v := (Value.string (bs (L.getD i [])))) one9 (zA b rfl) (by have := m 0 (.string (bs (L.getD i []))) zz (el_sv (i := i) zx zx); simpa using this) (op_fnv (fs := fs) (vs := [(.string (bs (L.getD i [])))]) (cs := cs) (zA b rfl) hokg ⟨(zA b rfl), trivial⟩ (hf i zx _ hb) ?_)
  rintro _ o ⟨m, rfl⟩
  have m := zQ m
  obtain ⟨hb, _⟩ := yE hb m
  have hl := hl.keep0 m
  rcases Bool.eq_false_or_eq_true ((p (L.getD i []))) with m | m
  ·
   rw [m]
   refine zB (l _ _ (wp_cond_true (zA b rfl) (zF fun _ l => zH (zG (zA b rfl) (zD (zA b rfl) (zB (l _ _ (wp_ret (zb (zO (zO (zb (zO ( (ret1 rfl c (zA b rfl) ⟨_, rfl, ?_⟩)))))))))))))))
   exact ⟨hb, _, rfl, ⟨fun _ => any_hit zx m, fun _ => by omega⟩⟩
  rw [m]
  refine zB (l _ _ (wp_cond_false (zA b rfl) (wp_skip (d _ _ (zH (op_add (zC b rfl e) rfl (add64 zx) (zG (zA b rfl) (zB ?_))))))))
  -- round 9T 16F
  exact zg _ b c ⟨(i + 1), rfl, (zL b rfl f), (zL b rfl j), (zL b rfl k), (zU b rfl).trans (congrArg (Value.int .i64) zx), zx, (any_step zx hnone m), hb, zx, hl⟩ zx
 refine zB (d _ _ (zF fun _ d => wp_cond_false (zA b rfl) (wp_exit (then_exit (then_exit (blk_hit (a _ _ (zF fun _ a => zH (zD rfl (zB (a _ _ (wp_ret (ret1 rfl c (zA b rfl) ⟨_, rfl, ?_⟩)))))))))))))
 exact ⟨hb, _, rfl, ⟨fun h => absurd h zz, fun h => by rw [any_end zx hnone] at h; cases h⟩⟩

theorem ContF_s {L : List (List UInt8)} {v : Value} {p : (List UInt8) → Bool} {w : World} (hl : RdC w 0 w.heap.size 1 v L.length (L.map sv)) {g : Nat} {fs cs : List Value} (hokg : callOk Try.prog g = true) (hf : ∀ i, i < L.length → ∀ w1, Below w.heap.size w w1 → Ret Try.prog g (fs ++ [Value.string (bs (L.getD i []))] ++ cs).toArray w1 (fun v' w' => Below w1.heap.size w1 w' ∧ v' = .bool (p (L.getD i [])))) : Ret Try.prog 124 #[v, (Value.func (.func g) fs.toArray cs.toArray)] w (fun v' w' => Below w.heap.size w w' ∧ v' = .bool (L.any p)) := by
 have hb := Below.refl w.heap.size w
 refine enter (N := 9) Try.func124 rfl rfl (by simp) fun a hN hd hA => ?_
 have b : a.tmps.getD 0 undef = v := hA 0 (by simp)
 have c : a.tmps.getD 1 undef = (.func (.func g) fs.toArray cs.toArray) := hA 1 (by simp)
 clear hA
 refine zF fun _ a => zH (zD rfl ?_)
 refine zB (a _ _ (zF fun _ a => zH (zG (zC hN rfl b) (zG (zC hN rfl c) (zj ok141 (IdxF_s hl hokg hf) ⟨(zA hN rfl), ⟨(zA hN rfl), trivial⟩⟩ ?_)))))
 rintro _ d ⟨b, c, rfl, e⟩
 have b := zQ b
 obtain ⟨hb, _⟩ := yE hb b
 have hl := hl.keep0 b
 refine op_geq (zA hN rfl) rfl (fun b => ?_) (fun b => ?_)
 ·
  refine zD (zA hN rfl) (zB (a _ _ (wp_ret (ret1 rfl hd (zA hN rfl) ⟨_, rfl, ?_⟩))))
  exact ⟨hb, congrArg Value.bool (idx_t (by assumption) b)⟩
 refine zD (zA hN rfl) (zB (a _ _ (wp_ret (ret1 rfl hd (zA hN rfl) ⟨_, rfl, ?_⟩))))
 exact ⟨hb, congrArg Value.bool (idx_f (by assumption) b)⟩

theorem IdxF_r {L : List RD} {v : Value} {p : RD → Bool} {w : World} (hl : RdC w 0 w.heap.size 2 v L.length (L.flatMap cellsRd)) {g : Nat} {fs cs : List Value} (hokg : callOk Try.prog g = true) (hf : ∀ i, i < L.length → ∀ w1, Below w.heap.size w w1 → Ret Try.prog g (fs ++ [Value.agg #[.string (bs (L.getD i default).tab), (L.getD i default).la]] ++ cs).toArray w1 (fun v' w' => Below w1.heap.size w1 w' ∧ v' = .bool (p (L.getD i default)))) : Ret Try.prog 143 #[v, (Value.func (.func g) fs.toArray cs.toArray)] w (fun v' w' => Below w.heap.size w w' ∧ ∃ n : Int, v' = .int .i64 n ∧ (0 ≤ n ↔ L.any p = true)) := by
 have hlm := rd_len hl
 have hb := Below.refl w.heap.size w
 refine enter (N := 19) Try.func143 rfl rfl (by simp) fun a hN hd hA => ?_
 have b : a.tmps.getD 0 undef = v := hA 0 (by simp)
 have c : a.tmps.getD 1 undef = (.func (.func g) fs.toArray cs.toArray) := hA 1 (by simp)
 clear hA
 refine zF fun _ a => zH (zD rfl ?_)
 refine zB (a _ _ (zF fun _ a => zF fun _ d => zH (zG (zC hN rfl b) (op_len_rd Try.underlying158 (zA hN rfl) hl (zG rfl (zB (d _ _ (wp_block (loop_m (fun mz_ az_ w' => ∃ (i : Nat), mz_ = L.length - i ∧ (Sl az_ 0 v) ∧ (Sl az_ 1 (.func (.func g) fs.toArray cs.toArray)) ∧ (Sl az_ 7 (.int .i64 ((L.length : Nat) : Int))) ∧ (Sl az_ 8 (.int .i64 ((i : Nat) : Int))) ∧ (i ≤ L.length) ∧ ((L.take i).any p = false) ∧ (Below w.heap.size w w') ∧ (w.heap.size ≤ w'.heap.size) ∧ (RdC w' 0 w.heap.size 2 v L.length (L.flatMap cellsRd))) _ hN hd ⟨0, rfl, (zL hN rfl b), (zL hN rfl c), (zU hN rfl), (zU hN rfl), (Nat.zero_le _), rfl, hb, (Nat.le_refl _), hl⟩ ?_)))))))))
 rintro _ m o b c ⟨i, rfl, f, l, k, e, hi, hnone, hb, q, hl⟩
 have := hb.size
 refine zF fun _ d => zH (op_lss (zC b rfl e) (zC b rfl k) (fun m => ?_) (fun m => ?_))
 ·
  refine zB (d _ _ (zF fun _ d => wp_cond_true (zA b rfl) (wp_skip (d _ _ (zF fun _ d => wp_block (zF fun _ m => ?_))))))
  refine zH (zG (zC b rfl e) (zD (zA b rfl) (zB (m _ _ (zF fun _ m => zH (zG (zC b rfl l) (zG (zC b rfl f) (zG (zA b rfl) (zh slt158 (zA b rfl) hl (zA b rfl) zx zx ?_)))))))))
  intro t q r s o
  refine zX (cs := [(.string (bs (L.getD i default).tab)), (L.getD i default).la]) agg169 rfl (zA b rfl) (fun j u hu => o j u (by have := (List.getElem?_eq_some_iff.1 hu).1; simpa using this) ((el_rdd (i := i) zx zx) j u hu)) (op_fnv (fs := fs) (vs := [(.agg #[(.string (bs (L.getD i default).tab)), (L.getD i default).la])]) (cs := cs) (zA b rfl) hokg ⟨(zA b rfl), trivial⟩ (hf i zx _ hb) ?_)
  rintro _ q ⟨o, rfl⟩
  have o := zQ o
  obtain ⟨hb, _⟩ := yE hb o
  have hl := hl.keep0 o
  rcases Bool.eq_false_or_eq_true ((p (L.getD i default))) with o | o
  ·
   rw [o]
   refine zB (m _ _ (wp_cond_true (zA b rfl) (zF fun _ m => zH (zG (zA b rfl) (zD (zA b rfl) (zB (m _ _ (wp_ret (zb (zO (zO (zb (zO ( (ret1 rfl c (zA b rfl) ⟨_, rfl, ?_⟩)))))))))))))))
   exact ⟨hb, _, rfl, ⟨fun _ => any_hit zx o, fun _ => by omega⟩⟩
  rw [o]
  refine zB (m _ _ (wp_cond_false (zA b rfl) (wp_skip (d _ _ (zH (op_add (zC b rfl e) rfl (add64 zx) (zG (zA b rfl) (zB ?_))))))))
  -- round 9T 16F
  exact zg _ b c ⟨(i + 1), rfl, (zL b rfl f), (zL b rfl l), (zL b rfl k), (zU b rfl).trans (congrArg (Value.int .i64) zx), zx, (any_step zx hnone o), hb, zx, hl⟩ zx
 refine zB (d _ _ (zF fun _ d => wp_cond_false (zA b rfl) (wp_exit (then_exit (then_exit (blk_hit (a _ _ (zF fun _ a => zH (zD rfl (zB (a _ _ (wp_ret (ret1 rfl c (zA b rfl) ⟨_, rfl, ?_⟩)))))))))))))
 exact ⟨hb, _, rfl, ⟨fun h => absurd h zz, fun h => by rw [any_end zx hnone] at h; cases h⟩⟩

theorem ContF_r {L : List RD} {v : Value} {p : RD → Bool} {w : World} (hl : RdC w 0 w.heap.size 2 v L.length (L.flatMap cellsRd)) {g : Nat} {fs cs : List Value} (hokg : callOk Try.prog g = true) (hf : ∀ i, i < L.length → ∀ w1, Below w.heap.size w w1 → Ret Try.prog g (fs ++ [Value.agg #[.string (bs (L.getD i default).tab), (L.getD i default).la]] ++ cs).toArray w1 (fun v' w' => Below w1.heap.size w1 w' ∧ v' = .bool (p (L.getD i default)))) : Ret Try.prog 126 #[v, (Value.func (.func g) fs.toArray cs.toArray)] w (fun v' w' => Below w.heap.size w w' ∧ v' = .bool (L.any p)) := by
 have hb := Below.refl w.heap.size w
 refine enter (N := 9) Try.func126 rfl rfl (by simp) fun a hN hd hA => ?_
 have b : a.tmps.getD 0 undef = v := hA 0 (by simp)
 have c : a.tmps.getD 1 undef = (.func (.func g) fs.toArray cs.toArray) := hA 1 (by simp)
 clear hA
 refine zF fun _ a => zH (zD rfl ?_)
 refine zB (a _ _ (zF fun _ a => zH (zG (zC hN rfl b) (zG (zC hN rfl c) (zj ok143 (IdxF_r hl hokg hf) ⟨(zA hN rfl), ⟨(zA hN rfl), trivial⟩⟩ ?_)))))
 rintro _ c ⟨b, e, rfl, d⟩
 have b := zQ b
 obtain ⟨hb, _⟩ := yE hb b
 have hl := hl.keep0 b
 refine op_geq (zA hN rfl) rfl (fun b => ?_) (fun b => ?_)
 ·
  refine zD (zA hN rfl) (zB (a _ _ (wp_ret (ret1 rfl hd (zA hN rfl) ⟨_, rfl, ?_⟩))))
  exact ⟨hb, congrArg Value.bool (idx_t (by assumption) b)⟩
 refine zD (zA hN rfl) (zB (a _ _ (wp_ret (ret1 rfl hd (zA hN rfl) ⟨_, rfl, ?_⟩))))
 exact ⟨hb, congrArg Value.bool (idx_f (by assumption) b)⟩
open Go.Sort (bitsLen)
theorem indexW_ret (l : Lb) (x : UInt16) (v : Value) (w : World) (hz : l.length ≤ 1000000000000) (hl : RdC w 0 w.heap.size 1 v l.length (l.map u16v)) : Ret Try.prog 152 #[v, (.int .u16 (x.toNat : Int))] w (fun v' w' => (∃ z : Int, v' = .int .i64 z ∧ decide (0 ≤ z) = inL x l) ∧ w' = w) := by
 refine enter (N := 19) Try.func152 rfl rfl (by simp) fun a hN hd hA => ?_
 have b : a.tmps.getD 0 undef = v := hA 0 (by simp)
 have c : a.tmps.getD 1 undef = (.int .u16 (x.toNat : Int)) := hA 1 (by simp)
 clear hA
 refine zF fun _ a => zH (zD rfl ?_)
 refine zB (a _ _ (zF fun _ a => zF fun _ d => zH (zG (zC hN rfl b) (op_len_rd Try.underlying54 (zA hN rfl) hl (zG rfl (zB (d _ _ (wp_block (loop_m (fun mz_ az_ w' => ∃ (i : Nat), mz_ = l.length - i ∧ (Sl az_ 0 v) ∧ (Sl az_ 1 (.int .u16 (x.toNat : Int))) ∧ (Sl az_ 7 (.int .i64 ((l.length : Nat) : Int))) ∧ (Sl az_ 8 (.int .i64 ((i : Nat) : Int))) ∧ (i ≤ l.length) ∧ (∀ e, e < i → l.getD e 0 ≠ x) ∧ w = w') _ hN hd ⟨0, rfl, (zL hN rfl b), (zL hN rfl c), (zU hN rfl), (zU hN rfl).trans (congrArg (Value.int .i64) zx), Nat.zero_le _, (fun e f => absurd f (Nat.not_lt_zero _)), rfl⟩ ?_)))))))))
 rintro _ j _ b c ⟨i, rfl, f, g, h, e, hi, hno, rfl⟩
 refine zF fun _ d => zH (op_lss (zC b rfl e) (zC b rfl h) (fun j => ?_) (fun j => ?_))
 ·
  refine zB (d _ _ (zF fun _ d => wp_cond_true (zA b rfl) (wp_skip (d _ _ (zF fun _ d => wp_block (zF fun _ j => ?_))))))
  refine zH (zG (zC b rfl e) (zD (zA b rfl) (zB (j _ _ (zF fun _ j => zH (zG (zC b rfl g) (zG (zC b rfl f) (zG (zA b rfl) (zh slt54 (zA b rfl) hl (zA b rfl) zx zx ?_)))))))))
  intro p m n o k
  refine zN (v := (Value.int .u16 ((l.getD i 0).toNat : Int))) one46 (zA b rfl) (by have := k 0 (.int .u16 ((l.getD i 0).toNat : Int)) zz (el_u16 (i := i) zx zx); simpa using this) (op_eql (zA b rfl) (zA b rfl) (fun m => ?_) (fun m => ?_))
  ·
   refine zB (j _ _ (wp_cond_true (zA b rfl) (zF fun _ j => zH (zG (zA b rfl) (zD (zA b rfl) (zB (j _ _ (wp_ret (zb (zO (zO (zb (zO ( (ret1 rfl c (zA b rfl) ⟨_, rfl, ?_⟩)))))))))))))))
   exact ⟨⟨_, rfl, by rw [in_t (i := i) zx (u16_eq m).symm]; exact decide_eq_true zx⟩, rfl⟩
  refine zB (j _ _ (wp_cond_false (zA b rfl) (wp_skip (d _ _ (zH (op_add (zC b rfl e) rfl (add64 zx) (zG (zA b rfl) (zB ?_))))))))
  -- round 9T 16F
  exact zg _ b c ⟨i + 1, rfl, (zL b rfl f), (zL b rfl g), (zL b rfl h), (zU b rfl).trans (congrArg (Value.int .i64) zx), zx, (no_step hno (fun e => m (by rw [e]))), rfl⟩ zx
 refine zB (d _ _ (zF fun _ d => wp_cond_false (zA b rfl) (wp_exit (then_exit (then_exit (blk_hit (a _ _ (zF fun _ a => zH (zD rfl (zB (a _ _ (wp_ret (ret1 rfl c (zA b rfl) ⟨_, rfl, ?_⟩)))))))))))))
 exact ⟨⟨_, rfl, by rw [in_f (i := i) zx hno]; rfl⟩, rfl⟩

theorem contW_ret (l : Lb) (x : UInt16) (v : Value) (w : World) (hz : l.length ≤ 1000000000000) (hl : RdC w 0 w.heap.size 1 v l.length (l.map u16v)) : Ret Try.prog 146 #[v, (.int .u16 (x.toNat : Int))] w (fun v' w' => v' = .bool (inL x l) ∧ w' = w) := by
 refine enter (N := 9) Try.func146 rfl rfl (by simp) fun a hN hd hA => ?_
 have b : a.tmps.getD 0 undef = v := hA 0 (by simp)
 have c : a.tmps.getD 1 undef = (.int .u16 (x.toNat : Int)) := hA 1 (by simp)
 clear hA
 refine zF fun _ a => zH (zD rfl ?_)
 refine zB (a _ _ (zF fun _ a => zH (zG (zC hN rfl b) (zG (zC hN rfl c) (ze (vs := [v, (.int .u16 (x.toNat : Int))]) ok152 ⟨(zA hN rfl), ⟨(zA hN rfl), trivial⟩⟩ (Ret.flip (indexW_ret l x _ _ zx (show RdC w 0 w.heap.size 1 v l.length (l.map u16v) from by have hh : RdC w 0 w.heap.size 1 _ _ _ := (hl.mono (L' := 0) (B' := w.heap.size) (Nat.zero_le _) zx); first | exact hh | exact hh.cast (by first | omega | (simp; try omega)) (by first | rfl | simp [u16v])))) ?_)))))
 rintro _ _ ⟨⟨c, rfl, b⟩, rfl⟩
 refine op_geq (zA hN rfl) rfl (fun c => ?_) (fun c => ?_)
 ·
  refine zD (zA hN rfl) (zB (a _ _ (wp_ret (ret1 rfl hd (zA hN rfl) ⟨_, rfl, ?_⟩))))
  exact ⟨congrArg Value.bool (by rw [← b]; simp; omega), rfl⟩
 refine zD (zA hN rfl) (zB (a _ _ (wp_ret (ret1 rfl hd (zA hN rfl) ⟨_, rfl, ?_⟩))))
 exact ⟨congrArg Value.bool (by rw [← b]; simp; omega), rfl⟩

theorem rinW_ret (l : Lb) (x : UInt16) (v : Value) (w : World) (hz : l.length ≤ 1000000000000) (hl : RdC w 0 w.heap.size 1 v l.length (l.map u16v)) : Ret Try.prog 94 #[v, (.int .u16 (x.toNat : Int))] w (fun v' w' => v' = .bool (inL x l) ∧ w' = w) := by
 refine enter (N := 18) Try.func94 rfl rfl (by simp) fun a hN hd hA => ?_
 have b : a.tmps.getD 0 undef = v := hA 0 (by simp)
 have c : a.tmps.getD 1 undef = (.int .u16 (x.toNat : Int)) := hA 1 (by simp)
 clear hA
 refine zF fun _ a => ?_
 refine zH (zD rfl (zB (a _ _ (zF fun _ a => zF fun _ d => zH (zD rfl (zB (d _ _ (wp_block (loop_m (fun mz_ az_ w' => ∃ (i : Nat), mz_ = l.length - i ∧ (Sl az_ 0 v) ∧ (Sl az_ 1 (.int .u16 (x.toNat : Int))) ∧ (Sl az_ 5 (.int .i64 ((i : Nat) : Int))) ∧ (i ≤ l.length) ∧ (∀ e, e < i → l.getD e 0 ≠ x) ∧ w = w') _ hN hd ⟨0, rfl, (zL hN rfl b), (zL hN rfl c), (zU hN rfl).trans (congrArg (Value.int .i64) zx), Nat.zero_le _, (fun e f => absurd f (Nat.not_lt_zero _)), rfl⟩ ?_)))))))))
 rintro _ h _ b e ⟨i, rfl, c, g, f, hi, hno, rfl⟩
 refine zF fun _ d => zF fun _ h => zH (zG (zC b rfl f) (zG (zC b rfl c) (op_len_rd Try.underlying45 (zA b rfl) hl (op_lss (zA b rfl) (zA b rfl) (fun j => ?_) (fun j => ?_)))))
 ·
  refine zB (h _ _ (wp_cond_true (zA b rfl) (wp_skip (d _ _ (zF fun _ d => wp_block (zF fun _ h => zH (zG (zC b rfl c) (zG (zC b rfl f) (zh slt45 (zA b rfl) hl (zA b rfl) zx zx ?_)))))))))
  intro m k n o j
  refine zN (v := (Value.int .u16 ((l.getD i 0).toNat : Int))) one46 (zA b rfl) (by have := j 0 (.int .u16 ((l.getD i 0).toNat : Int)) zz (el_u16 (i := i) zx zx); simpa using this) (zG (zC b rfl g) (op_eql (zA b rfl) (zA b rfl) (fun k => ?_) (fun k => ?_)))
  ·
   refine zB (h _ _ (wp_cond_true (zA b rfl) (zF fun _ h => zH (zD rfl (zB (h _ _ (wp_ret (zb (zO (zO (zb (zO ( (ret1 rfl e (zA b rfl) ⟨_, rfl, ?_⟩))))))))))))))
   exact ⟨congrArg Value.bool (in_t (i := i) zx (u16_eq k)).symm, rfl⟩
  refine zB (h _ _ (wp_cond_false (zA b rfl) (wp_skip (d _ _ (zH (zG (zC b rfl f) (op_add (zA b rfl) rfl (add64 zx) (zD (zA b rfl) (zB ?_)))))))))
  -- round 9T 17F
  exact zg _ b e ⟨i + 1, rfl, (zL b rfl c), (zL b rfl g), (zU b rfl).trans (congrArg (Value.int .i64) zx), zx, (no_step hno (fun d => k (by rw [d]))), rfl⟩ zx
 refine zB (h _ _ (wp_cond_false (zA b rfl) (wp_exit (then_exit (then_exit (blk_hit (a _ _ (zF fun _ a => zH (zD rfl (zB (a _ _ (wp_ret (ret1 rfl e (zA b rfl) ⟨_, rfl, ?_⟩)))))))))))))
 exact ⟨congrArg Value.bool (in_f (i := i) zx hno).symm, rfl⟩

theorem minus1W_ret (x : UInt16) (m : Lb) (u : Value) (bc : Nat) (w : World) (hzm : m.length ≤ 1000000000000) (hbc : Bx w bc 54 [u]) (hm : RdC w 0 w.heap.size 1 u m.length (m.map u16v)) : Ret Try.prog 145 #[(.int .u16 (x.toNat : Int)), (ptr bc 0)] w (fun v' w' => v' = .bool (ninL x m) ∧ w' = w) := by
 refine enter (N := 8) Try.func145 rfl rfl (by simp) fun a hN hd hA => ?_
 have b : a.tmps.getD 0 undef = (.int .u16 (x.toNat : Int)) := hA 0 (by simp)
 have c : a.tmps.getD 1 undef = (ptr bc 0) := hA 1 (by simp)
 clear hA
 refine zF fun _ a => zH (zD rfl ?_)
 refine zB (a _ _ (zF fun _ a => zH (zN one54 (zC hN rfl c) (hbc.cell rfl) (zG (zC hN rfl b) (ze (vs := [u, (.int .u16 (x.toNat : Int))]) ok146 ⟨(zA hN rfl), ⟨(zA hN rfl), trivial⟩⟩ (Ret.flip (contW_ret m x _ _ zx (show RdC w 0 w.heap.size 1 u m.length (m.map u16v) from by have hh : RdC w 0 w.heap.size 1 _ _ _ := (hm.mono (L' := 0) (B' := w.heap.size) (Nat.zero_le _) zx); first | exact hh | exact hh.cast (by first | omega | (simp; try omega)) (by first | rfl | simp [u16v])))) ?_)))))
 rintro _ _ ⟨rfl, rfl⟩
 refine op_not (zA hN rfl) (zD (zA hN rfl) (zB (a _ _ (wp_ret (ret1 rfl hd (zA hN rfl) ⟨_, rfl, ?_⟩)))))
 exact ⟨rfl, rfl⟩

theorem those52_ret (l : Lb) (v : Value) (m : Lb) (u : Value) (bc : Nat) (w : World) (hz : l.length ≤ 1000000000000) (hl : RdC w 0 w.heap.size 1 v l.length (l.map u16v)) (hzm : m.length ≤ 1000000000000) (hbc : Bx w bc 54 [u]) (hm : RdC w 0 w.heap.size 1 u m.length (m.map u16v)) : Ret Try.prog 144 #[v, (.func (.func 145) #[] #[(ptr bc 0)])] w (fun v' w' => Below w.heap.size w w' ∧ Own w' w.heap.size 46 1 v' (l.filter (fun x => ninL x m)).length ((l.filter (fun x => ninL x m)).map u16v)) := by
 have hbc_lt := hbc.lt
 have hb := Below.refl w.heap.size w
 refine enter (N := 23) Try.func144 rfl rfl (by simp) fun a hN hd hA => ?_
 have b : a.tmps.getD 0 undef = v := hA 0 (by simp)
 have c : a.tmps.getD 1 undef = (.func (.func 145) #[] #[(ptr bc 0)]) := hA 1 (by simp)
 clear hA
 refine zF fun _ a => zH (zD rfl (zB (a _ _ (zF fun _ a => zH (zD rfl ?_)))))
 refine zB (a _ _ (zF fun _ a => zF fun _ d => zH (zG (zC hN rfl b) (op_len_rd Try.underlying45 (zA hN rfl) hl (zG rfl (zB (d _ _ (wp_block (loop_m (fun mz_ az_ w' => ∃ (i : Nat) (r : Value), mz_ = l.length - i ∧ (Sl az_ 1 (.func (.func 145) #[] #[(ptr bc 0)])) ∧ (Sl az_ 4 (.slice none 0 0)) ∧ (Sl az_ 8 v) ∧ (Sl az_ 9 (.int .i64 ((l.length : Nat) : Int))) ∧ (Sl az_ 10 (.int .i64 ((i : Nat) : Int))) ∧ (Sl az_ 5 r) ∧ (i ≤ l.length) ∧ (((l.take i).filter (fun x => ninL x m)).length ≤ i) ∧ (Below w.heap.size w w') ∧ (w.heap.size ≤ w'.heap.size) ∧ (RdC w' 0 w.heap.size 1 v l.length (l.map u16v)) ∧ (Bx w' bc 54 [u]) ∧ (RdC w' 0 w.heap.size 1 u m.length (m.map u16v)) ∧ (Own w' w.heap.size 46 1 r ((l.take i).filter (fun x => ninL x m)).length (((l.take i).filter (fun x => ninL x m)).map u16v))) _ hN hd ⟨0, _, rfl, (zL hN rfl c), (zU hN rfl), (zU hN rfl), (zU hN rfl), (zU hN rfl), (zU hN rfl), Nat.zero_le _, (by simp), hb, (Nat.le_refl _), hl, hbc, hm, (Own.nil _ _ _ _)⟩ ?_)))))))))
 rintro _ s f b h ⟨i, r, rfl, p, q, o, j, g, k, hi, hfl, hb, t, hl, hbc, hm, c⟩
 have := hb.size
 refine zF fun _ d => zH (op_lss (zC b rfl g) (zC b rfl j) (fun s => ?_) (fun s => ?_))
 ·
  refine zB (d _ _ (zF fun _ d => wp_cond_true (zA b rfl) (wp_skip (d _ _ (zF fun _ d => wp_block (zF fun _ s => zH (zh slt45 (zC b rfl o) hl (zC b rfl g) zx zx ?_)))))))
  intro y A z B t
  refine zN (v := (Value.int .u16 ((l.getD i 0).toNat : Int))) one46 (zA b rfl) (by have := t 0 (.int .u16 ((l.getD i 0).toNat : Int)) zz (el_u16 (i := i) zx zx); simpa using this) (zD (zA b rfl) (zB (s _ _ (zF fun _ s => zH (zG (zC b rfl p) (zG (zA b rfl) (op_fnv (fs := []) (vs := [(.int .u16 ((l.getD i 0).toNat : Int))]) (cs := [(ptr bc 0)]) (zA b rfl) ok145 ⟨(zA b rfl), trivial⟩ (Ret.flip (minus1W_ret (l.getD i 0) m _ _ _ zx hbc (show RdC f 0 f.heap.size 1 u m.length (m.map u16v) from by have hh : RdC f 0 f.heap.size 1 _ _ _ := (hm.mono (L' := 0) (B' := f.heap.size) (Nat.zero_le _) zx); first | exact hh | exact hh.cast (by first | omega | (simp; try omega)) (by first | rfl | simp [u16v])))) ?_)))))))
  rintro _ _ ⟨rfl, rfl⟩
  rcases Bool.eq_false_or_eq_true ((ninL (l.getD i 0) m)) with f | f
  ·
   rw [f]
   refine zB (s _ _ (wp_cond_true (zA b rfl) (zH (zG (zC b rfl k) (zG (zA b rfl) (op_bslice (e := 46) (pv := [(0, (.int .u16 ((l.getD i 0).toNat : Int)))]) (cs := [(.int .u16 ((l.getD i 0).toNat : Int))]) ⟨rfl, (zA b rfl), trivial⟩ zy ?_))))))
   intro B A z C y t
   obtain ⟨hb, _⟩ := yE hb t
   have c := c.keep0 t
   have z := c
   refine op_append slt45 (zA b rfl) z (zA b rfl) (Src.ofRd Try.underlying45 zz (RdC.ofBx (sz := 1) (n := 1) y rfl zz) (by simp [Value.oneCell', u8v])) (by unfold maxLen; omega) zx hb.size ?_
   intro B C A y D
   have := y.size
   have hl := (hl.keep0 t).keepO z y zx
   have hbc := (hbc.keep0 t).keepO z y zz
   have hm := (hm.keep0 t).keepO z y zx
   have hb := below_stepO hb z y hb.size zx
   have A : Own C w.heap.size 46 1 B (((l.take i).filter (fun x => ninL x m)).length + 1) (((((l.take i).filter (fun x => ninL x m)) ++ [(l.getD i 0)])).map u16v) := by simpa [u8v, u16v, cellsV] using A
   refine zD (zA b rfl) (zB (d _ _ (zH (op_add (zC b rfl g) rfl (add64 zx) (zG (zA b rfl) (zB ?_))))))
   -- round 11T 16T
   exact zg _ b h ⟨i + 1, _, rfl, (zL b rfl p), (zL b rfl q), (zL b rfl o), (zL b rfl j), (zU b rfl).trans (congrArg (Value.int .i64) zx), (zU b rfl), zx, (by first | exact filter_le), hb, zx, hl, hbc, hm, (A.cast (by rw [filter_t zx f]; try simp) (by rw [filter_t zx f]; try simp [u16v]))⟩ zx
  rw [f]
  refine zB (s _ _ (wp_cond_false (zA b rfl) (wp_skip (d _ _ (zH (op_add (zC b rfl g) rfl (add64 zx) (zG (zA b rfl) (zB ?_))))))))
  -- round 11T 16F
  exact zg _ b h ⟨i + 1, _, rfl, (zL b rfl p), (zL b rfl q), (zL b rfl o), (zL b rfl j), (zU b rfl).trans (congrArg (Value.int .i64) zx), (zL b rfl k), zx, (by first | exact filter_le), hb, zx, hl, hbc, hm, (c.cast (by rw [filter_f zx f]) (by rw [filter_f zx f]))⟩ zx
 refine zB (d _ _ (zF fun _ d => wp_cond_false (zA b rfl) (wp_exit (then_exit (then_exit (blk_hit (a _ _ (zF fun _ a => zH (zG (zC b rfl k) (zD (zA b rfl) (zB (a _ _ (wp_ret (ret1 rfl h (zA b rfl) ⟨_, rfl, ?_⟩))))))))))))))
 rw [take_all l zx] at c
 exact ⟨hb, c⟩

theorem minusW_ret (l m : Lb) (v u : Value) (w : World) (hz : l.length ≤ 1000000000000) (hzm : m.length ≤ 1000000000000) (hl : RdC w 0 w.heap.size 1 v l.length (l.map u16v)) (hm : RdC w 0 w.heap.size 1 u m.length (m.map u16v)) : Ret Try.prog 129 #[v, u] w (fun v' w' => Below w.heap.size w w' ∧ Own w' w.heap.size 46 1 v' (minusL l m).length ((minusL l m).map u16v)) := by
 have hb := Below.refl w.heap.size w
 refine enter (N := 8) Try.func129 rfl rfl (by simp) fun a hN hd hA => ?_
 have b : a.tmps.getD 0 undef = v := hA 0 (by simp)
 have c : a.tmps.getD 1 undef = u := hA 1 (by simp)
 clear hA
 refine zF fun _ a => zH (op_box (cs := [u]) (zC hN rfl c) (RdC.cells hm) ?_)
 intro c e g h f d
 obtain ⟨hb, _⟩ := yE hb d
 have hl := hl.keep0 d
 have hm := hm.keep0 d
 refine zD rfl ?_
 refine zB (a _ _ (zF fun _ a => zH (zG (zC hN rfl b) (op_mkfn (cv := [(ptr e 0)]) ⟨(zA hN rfl), trivial⟩ (zj ok144 (those52_ret l _ m _ _ _ zx (show RdC c 0 c.heap.size 1 v l.length (l.map u16v) from by have hh : RdC c 0 c.heap.size 1 _ _ _ := (hl.mono (L' := 0) (B' := c.heap.size) (Nat.zero_le _) zx); first | exact hh | exact hh.cast (by first | omega | (simp; try omega)) (by first | rfl | simp [u16v])) zx f (show RdC c 0 c.heap.size 1 u m.length (m.map u16v) from by have hh : RdC c 0 c.heap.size 1 _ _ _ := (hm.mono (L' := 0) (B' := c.heap.size) (Nat.zero_le _) zx); first | exact hh | exact hh.cast (by first | omega | (simp; try omega)) (by first | rfl | simp [u16v]))) ⟨(zA hN rfl), ⟨(zA hN rfl), trivial⟩⟩ ?_)))))
 rintro d e ⟨b, c⟩
 have b := zQ b
 obtain ⟨hb, _⟩ := yE hb b
 have hl := hl.keep0 b
 have c := c.mono (base' := w.heap.size) zx
 refine zD (zA hN rfl) (zB (a _ _ (wp_ret (ret1 rfl hd (zA hN rfl) ⟨_, rfl, ?_⟩))))
 exact ⟨hb, c⟩

theorem flowsW_ret (l m : Lb) (v u : Value) (w : World) (hz : l.length ≤ 1000000000000) (hzm : m.length ≤ 1000000000000) (hl : RdC w 0 w.heap.size 1 v l.length (l.map u16v)) (hm : RdC w 0 w.heap.size 1 u m.length (m.map u16v)) : Ret Try.prog 106 #[v, u] w (fun v' w' => Below w.heap.size w w' ∧ v' = .bool (flowsL l m)) := by
 have hb := Below.refl w.heap.size w
 refine enter (N := 10) Try.func106 rfl rfl (by simp) fun a hN hd hA => ?_
 have b : a.tmps.getD 0 undef = v := hA 0 (by simp)
 have c : a.tmps.getD 1 undef = u := hA 1 (by simp)
 clear hA
 refine zF fun _ a => zH (zD rfl ?_)
 refine zB (a _ _ (zF fun _ a => zH (zG (zC hN rfl b) (zG (zC hN rfl c) (zj ok129 (minusW_ret l m _ _ _ (by first | assumption | omega | (simp only [List.length_append, List.length_cons, List.length_nil, List.length_drop, List.length_take]; omega) | (dsimp only; omega) | decide | (simp [keyV, be8_len]; done)) (by first | assumption | omega | (simp only [List.length_append, List.length_cons, List.length_nil, List.length_drop, List.length_take]; omega) | (dsimp only; omega) | decide | (simp [keyV, be8_len]; done)) (show RdC w 0 w.heap.size 1 v l.length (l.map u16v) from by have hh : RdC w 0 w.heap.size 1 _ _ _ := (hl.mono (L' := 0) (B' := w.heap.size) (Nat.zero_le _) zx); first | exact hh | exact hh.cast (by first | omega | (simp; try omega)) (by first | rfl | simp [u16v])) (show RdC w 0 w.heap.size 1 u m.length (m.map u16v) from by have hh : RdC w 0 w.heap.size 1 _ _ _ := (hm.mono (L' := 0) (B' := w.heap.size) (Nat.zero_le _) zx); first | exact hh | exact hh.cast (by first | omega | (simp; try omega)) (by first | rfl | simp [u16v]))) ⟨(zA hN rfl), ⟨(zA hN rfl), trivial⟩⟩ ?_)))))
 rintro e d ⟨b, c⟩
 have b := zQ b
 obtain ⟨hb, _⟩ := yE hb b
 have hl := hl.keep0 b
 have c := c.mono (base' := w.heap.size) zx
 refine op_len_rd Try.underlying54 (zA hN rfl) c.rdw (op_eql (zA hN rfl) rfl (fun b => ?_) (fun b => ?_))
 ·
  refine zD (zA hN rfl) (zB (a _ _ (wp_ret (ret1 rfl hd (zA hN rfl) ⟨_, rfl, ?_⟩))))
  exact ⟨hb, congrArg Value.bool (by rw [flows_minus]; symm; first | exact decide_eq_true zx | exact decide_eq_false zx)⟩
 refine zD (zA hN rfl) (zB (a _ _ (wp_ret (ret1 rfl hd (zA hN rfl) ⟨_, rfl, ?_⟩))))
 exact ⟨hb, congrArg Value.bool (by rw [flows_minus]; symm; first | exact decide_eq_true zx | exact decide_eq_false zx)⟩
open Go.Sort (bitsLen)
theorem rflowsW_ret (l m : Lb) (v u : Value) (w : World) (hz : l.length ≤ 1000000000000) (hzm : m.length ≤ 1000000000000) (hl : RdC w 0 w.heap.size 1 v l.length (l.map u16v)) (hm : RdC w 0 w.heap.size 1 u m.length (m.map u16v)) : Ret Try.prog 50 #[v, u] w (fun v' w' => Below w.heap.size w w' ∧ v' = .bool (flowsL l m)) := by
 have hb := Below.refl w.heap.size w
 refine enter (N := 19) Try.func50 rfl rfl (by simp) fun a hN hd hA => ?_
 have b : a.tmps.getD 0 undef = v := hA 0 (by simp)
 have c : a.tmps.getD 1 undef = u := hA 1 (by simp)
 clear hA
 refine zF fun _ a => ?_
 refine zH (zD rfl (zB (a _ _ (zF fun _ a => zF fun _ d => zH (zD rfl (zB (d _ _ (wp_block (loop_m (fun mz_ az_ w' => ∃ (i : Nat), mz_ = l.length - i ∧ (Sl az_ 0 v) ∧ (Sl az_ 1 u) ∧ (Sl az_ 5 (.int .i64 ((i : Nat) : Int))) ∧ (i ≤ l.length) ∧ ((l.take i).all (fun x => inL x m) = true) ∧ w = w') _ hN hd ⟨0, rfl, (zL hN rfl b), (zL hN rfl c), (zU hN rfl).trans (congrArg (Value.int .i64) zx), Nat.zero_le _, rfl, rfl⟩ ?_)))))))))
 rintro _ h _ b f ⟨i, rfl, c, g, e, hi, hall, rfl⟩
 refine zF fun _ d => zF fun _ h => zH (zG (zC b rfl e) (zG (zC b rfl c) (op_len_rd Try.underlying54 (zA b rfl) hl (op_lss (zA b rfl) (zA b rfl) (fun j => ?_) (fun j => ?_)))))
 ·
  refine zB (h _ _ (wp_cond_true (zA b rfl) (wp_skip (d _ _ (zF fun _ d => wp_block (zF fun _ h => zH (zG (zC b rfl g) (zG (zC b rfl c) (zG (zC b rfl e) (zh slt54 (zA b rfl) hl (zA b rfl) zx zx ?_))))))))))
  intro p k n o j
  refine zN (v := (Value.int .u16 ((l.getD i 0).toNat : Int))) one46 (zA b rfl) (by have := j 0 (.int .u16 ((l.getD i 0).toNat : Int)) zz (el_u16 (i := i) zx zx); simpa using this) (ze (vs := [u, (.int .u16 ((l.getD i 0).toNat : Int))]) ok94 ⟨(zA b rfl), ⟨(zA b rfl), trivial⟩⟩ (Ret.flip (rinW_ret m (l.getD i 0) _ _ zx (show RdC w 0 w.heap.size 1 u m.length (m.map u16v) from by have hh : RdC w 0 w.heap.size 1 _ _ _ := (hm.mono (L' := 0) (B' := w.heap.size) (Nat.zero_le _) zx); first | exact hh | exact hh.cast (by first | omega | (simp; try omega)) (by first | rfl | simp [u16v])))) ?_)
  rintro _ _ ⟨rfl, rfl⟩
  rcases Bool.eq_false_or_eq_true ((inL (l.getD i 0) m)) with j | j
  ·
   rw [j]
   refine op_not (zA b rfl) (zB (h _ _ (wp_cond_false (zA b rfl) (wp_skip (d _ _ (zH (zG (zC b rfl e) (op_add (zA b rfl) rfl (add64 zx) (zD (zA b rfl) (zB ?_))))))))))
   -- round 9T 17T
   exact zg _ b f ⟨i + 1, rfl, (zL b rfl c), (zL b rfl g), (zU b rfl).trans (congrArg (Value.int .i64) zx), zx, (all_step zx hall j), rfl⟩ zx
  rw [j]
  refine op_not (zA b rfl) (zB (h _ _ (wp_cond_true (zA b rfl) (zF fun _ h => zH (zD rfl (zB (h _ _ (wp_ret (zb (zO (zO (zb (zO ( (ret1 rfl f (zA b rfl) ⟨_, rfl, ?_⟩)))))))))))))))
  exact ⟨hb, congrArg Value.bool (all_f (i := i) zx j).symm⟩
 refine zB (h _ _ (wp_cond_false (zA b rfl) (wp_exit (then_exit (then_exit (blk_hit (a _ _ (zF fun _ a => zH (zD rfl (zB (a _ _ (wp_ret (ret1 rfl f (zA b rfl) ⟨_, rfl, ?_⟩)))))))))))))
 exact ⟨hb, congrArg Value.bool (all_end (i := i) zx hall).symm⟩
open Go.Sort (bitsLen)
end Go.Proofs.Ytmhdbphpmgjpcaa

namespace Go.Proofs.Ytmhdbphpmgjpcaa
open Go.Gx
end Go.Proofs.Ytmhdbphpmgjpcaa

namespace Go.Proofs.Ytmhdbphpmgjpcaa
open Go.Gx
/-! how keys stand -/
end Go.Proofs.Ytmhdbphpmgjpcaa

namespace Go.Proofs.Ytmhdbphpmgjpcaa
open Go.Gx Go.RowKit
attribute [local irreducible] wpList wpStill Code.wp Calls

theorem refMay_ret (l : Lb) (v : Value) (w : World) (hl : l.length ≤ 9223372036854775807) (h : RdC w 0 w.heap.size 1 v l.length (l.map u16v)) : Ret Try.prog 33 #[v] w (fun v' w' => Below w.heap.size w w' ∧ v' = .bool (mayL l)) := by
 have hb := Below.refl w.heap.size w
 refine enter (N := 23) Try.func33 rfl rfl (by simp) fun a hN hd hA => ?_
 have c : a.tmps.getD 0 undef = v := hA 0 (by simp)
 clear hA
 refine zF fun _ a => ?_
 refine zH (zD rfl (zB (a _ _ (zF fun _ a => zF fun _ d => zH (zD rfl (zB (d _ _ (wp_block (loop_m (fun mz_ az_ w' => ∃ (i : Nat), mz_ = l.length - i ∧ (Sl az_ 0 v) ∧ (Sl az_ 3 (.int .i64 ((i : Nat) : Int))) ∧ (1 ≤ i ∧ (i ≤ l.length ∨ i = 1)) ∧ (Rise (l.take i)) ∧ (Below w.heap.size w w') ∧ (w.heap.size ≤ w'.heap.size) ∧ (RdC w' 0 w.heap.size 1 v l.length (l.map u16v))) _ hN hd ⟨1, rfl, (zL hN rfl c), (zU hN rfl).trans (congrArg (Value.int .i64) zx), ⟨Nat.le_refl _, .inr rfl⟩, rise_one, hb, (Nat.le_refl _), h⟩ ?_)))))))))
 rintro _ m j c f ⟨i, rfl, e, g, hi, hr, hb, k, h⟩
 have := hb.size
 refine zF fun _ d => zF fun _ j => zH (zG (zC c rfl g) (zG (zC c rfl e) (op_len_rd Try.underlying54 (zA c rfl) h (op_lss (zA c rfl) (zA c rfl) (fun k => ?_) (fun k => ?_)))))
 ·
  refine zB (j _ _ (wp_cond_true (zA c rfl) (wp_skip (d _ _ (zF fun _ d => wp_block (zF fun _ j => reg_still mixed zy ?_))))))
  intro m k
  obtain ⟨hb, _⟩ := yE hb k
  have h := h.keep0 k
  refine st_step rfl (fun _ k => zG (zC c rfl e) k) (st_step rfl (fun _ k => zG (zC c rfl g) k) (st_step rfl (fun _ k => op_sub (zA c rfl) rfl (sub64 zx) k) (st_index_rd slt54 (zA c rfl) h (zA c rfl) zx zx ?_)))
  intro n p o q m
  refine st_step rfl (fun _ k => zN (v := (Value.int .u16 ((l.getD (i - 1) 0).toNat : Int))) one46 (zA c rfl) (by have := m 0 (.int .u16 ((l.getD (i - 1) 0).toNat : Int)) zz (el_u16 (i := (i - 1)) zx zx); simpa using this) k) (st_step rfl (fun _ k => zG (zC c rfl e) k) (st_step rfl (fun _ k => zG (zC c rfl g) k) (st_index_rd slt54 (zA c rfl) h (zA c rfl) zx zx ?_)))
  intro o n p q m
  refine st_step rfl (fun _ k => zN (v := (Value.int .u16 ((l.getD i 0).toNat : Int))) one46 (zA c rfl) (by have := m 0 (.int .u16 ((l.getD i 0).toNat : Int)) zz (el_u16 (i := i) zx zx); simpa using this) k) (st_step rfl (fun _ k => op_cmp (b := (decide (((l.getD i 0).toNat : Int) ≤ ((l.getD (i - 1) 0).toNat : Int)))) (zA c rfl) (zA c rfl) (b_geq rfl) k) (st_nil (j _ _ (wp_cond_split (zA c rfl) (fun n => ?_) (fun n => ?_)))))
  ·
   have n := of_decide_eq_true n
   refine zF fun _ j => zH (zD rfl (zB (j _ _ (wp_ret (zb (zO (zO (zb (zO ( (ret1 rfl f (zA c rfl) ⟨_, rfl, ?_⟩)))))))))))
   exact ⟨hb, congrArg Value.bool (by rw [mayL, decide_eq_false (rise_bad (i := i) zx zx zx), Bool.false_and])⟩
  have n := of_decide_eq_false n
  refine wp_skip (d _ _ (zH (zG (zC c rfl g) (op_add (zA c rfl) rfl (add64 zx) (zD (zA c rfl) (zB ?_))))))
  -- round 7T 19F
  exact zg _ c f ⟨i + 1, rfl, (zL c rfl e), (zU c rfl).trans (congrArg (Value.int .i64) zx), zx, (rise_step zx zx hr zx), hb, zx, h⟩ zx
 refine zB (j _ _ (wp_cond_false (zA c rfl) (wp_exit (then_exit (then_exit (blk_hit (a _ _ (zF fun _ a => zH (zG (zC c rfl e) (op_len_rd Try.underlying54 (zA c rfl) h (op_leq (zA c rfl) rfl (fun d => ?_) (fun d => ?_))))))))))))
 ·
  refine zD (zA c rfl) (zB (a _ _ (wp_ret (ret1 rfl f (zA c rfl) ⟨_, rfl, ?_⟩))))
  have d : Rise l := by rwa [List.take_of_length_le zx] at hr
  exact ⟨hb, congrArg Value.bool (by rw [mayL, decide_eq_true d, Bool.true_and]; exact (decide_eq_true zx).symm)⟩
 refine zD (zA c rfl) (zB (a _ _ (wp_ret (ret1 rfl f (zA c rfl) ⟨_, rfl, ?_⟩))))
 have d : Rise l := by rwa [List.take_of_length_le zx] at hr
 exact ⟨hb, congrArg Value.bool (by rw [mayL, decide_eq_true d, Bool.true_and]; exact (decide_eq_false zx).symm)⟩

theorem cmpL_ret (l m : Lb) (v u : Value) (w : World) (hl : l.length ≤ 9223372036854775807) (hm : m.length ≤ 9223372036854775807) (h : RdC w 0 w.heap.size 1 v l.length (l.map u16v)) (h2 : RdC w 0 w.heap.size 1 u m.length (m.map u16v)) : Ret Try.prog 78 #[v, u] w (fun v' w' => Below w.heap.size w w' ∧ v' = .int .i64 (cmpL l m)) := by
 have hb := Below.refl w.heap.size w
 refine enter (N := 40) Try.func78 rfl rfl (by simp) fun a hN hd hA => ?_
 have c : a.tmps.getD 0 undef = v := hA 0 (by simp)
 have d : a.tmps.getD 1 undef = u := hA 1 (by simp)
 clear hA
 refine zF fun _ a => zH ?_
 refine zD rfl (zB (a _ _ (zF fun _ a => zF fun _ e => zH (zG (zC hN rfl c) (op_len_rd Try.underlying54 (zA hN rfl) h (zG (zC hN rfl d) (op_len_rd Try.underlying54 (zA hN rfl) h2 (op_neq (zA hN rfl) (zA hN rfl) (fun f => ?_) (fun f => ?_)))))))))
 ·
  refine zB (e _ _ (wp_cond_true (zA hN rfl) (zF fun _ e => zF fun _ f => zH (zG (zC hN rfl c) (op_len_rd Try.underlying54 (zA hN rfl) h (zG (zC hN rfl d) (op_len_rd Try.underlying54 (zA hN rfl) h2 (op_lss (zA hN rfl) (zA hN rfl) (fun g => ?_) (fun g => ?_)))))))))
  ·
   refine zB (f _ _ (wp_cond_true (zA hN rfl) (zF fun _ f => zH (zD rfl (zB (f _ _ (wp_ret (zO (zO ( (ret1 rfl hd (zA hN rfl) ⟨_, rfl, ?_⟩)))))))))))
   exact ⟨hb, congrArg (Value.int .i64) (by rw [cmpL, if_pos zx])⟩
  refine zB (f _ _ (wp_cond_false (zA hN rfl) (wp_skip (e _ _ (zF fun _ e => zH (zD rfl (zB (e _ _ (wp_ret (zO ( (ret1 rfl hd (zA hN rfl) ⟨_, rfl, ?_⟩))))))))))))
  exact ⟨hb, congrArg (Value.int .i64) (by rw [cmpL, if_neg zx, if_pos zx])⟩
 refine zB (e _ _ (wp_cond_false (zA hN rfl) (wp_skip (a _ _ (zF fun _ a => zF fun _ e => zH (zD rfl (zB (e _ _ (wp_block (loop_m (fun mz_ az_ w' => ∃ (i : Nat), mz_ = l.length - i ∧ (Sl az_ 0 v) ∧ (Sl az_ 1 u) ∧ (Sl az_ 5 (.int .i64 ((i : Nat) : Int))) ∧ (i ≤ l.length) ∧ (cmpG l m = cmpG (l.drop i) (m.drop i)) ∧ (Below w.heap.size w w') ∧ (w.heap.size ≤ w'.heap.size) ∧ (RdC w' 0 w.heap.size 1 v l.length (l.map u16v)) ∧ (RdC w' 0 w.heap.size 1 u m.length (m.map u16v))) _ hN hd ⟨0, rfl, (zL hN rfl c), (zL hN rfl d), (zU hN rfl), Nat.zero_le _, rfl, hb, (Nat.le_refl _), h, h2⟩ ?_))))))))))
 rintro _ o p c g ⟨i, rfl, j, k, d, hi, he, hb, n, h, h2⟩
 have := hb.size
 refine zF fun _ e => zF fun _ f => zH (zG (zC c rfl d) (zG (zC c rfl j) (op_len_rd Try.underlying54 (zA c rfl) h (op_lss (zA c rfl) (zA c rfl) (fun n => ?_) (fun n => ?_)))))
 ·
  refine zB (f _ _ (wp_cond_true (zA c rfl) (wp_skip (e _ _ (zF fun _ e => wp_block (zF fun _ f => zF fun _ n => reg_still mixed zy ?_))))))
  intro p o
  obtain ⟨hb, _⟩ := yE hb o
  have h := h.keep0 o
  have h2 := h2.keep0 o
  refine st_step rfl (fun _ o => zG (zC c rfl j) o) (st_step rfl (fun _ o => zG (zC c rfl d) o) (st_index_rd slt54 (zA c rfl) h (zA c rfl) zx zx ?_))
  intro t s q r p
  refine st_step rfl (fun _ o => zN (v := (Value.int .u16 ((l.getD i 0).toNat : Int))) one46 (zA c rfl) (by have := p 0 (.int .u16 ((l.getD i 0).toNat : Int)) zz (el_u16 (i := i) zx zx); simpa using this) o) (st_step rfl (fun _ o => zG (zC c rfl k) o) (st_step rfl (fun _ o => zG (zC c rfl d) o) (st_index_rd slt54 (zA c rfl) h2 (zA c rfl) zx zx ?_)))
  intro t s r q p
  refine st_step rfl (fun _ o => zN (v := (Value.int .u16 ((m.getD i 0).toNat : Int))) one46 (zA c rfl) (by have := p 0 (.int .u16 ((m.getD i 0).toNat : Int)) zz (el_u16 (i := i) zx zx); simpa using this) o) (st_step rfl (fun _ o => op_cmp (b := (decide (((l.getD i 0).toNat : Int) < ((m.getD i 0).toNat : Int)))) (zA c rfl) (zA c rfl) (b_lss rfl) o) (st_nil (n _ _ (wp_cond_split (zA c rfl) (fun q => ?_) (fun q => ?_)))))
  ·
   have q := of_decide_eq_true q
   refine zF fun _ n => zH (zD rfl (zB (n _ _ (wp_ret (zO (zb (zO (zO (zb (zO ( (ret1 rfl g (zA c rfl) ⟨_, rfl, ?_⟩))))))))))))
   exact ⟨hb, congrArg (Value.int .i64) (by rw [cmpL, if_neg zx, if_neg zx, he, cmpG_step zx zx, if_pos zx])⟩
  have q := of_decide_eq_false q
  refine wp_skip (f _ _ (zF fun _ f => reg_still mixed zy ?_))
  intro p n
  obtain ⟨hb, _⟩ := yE hb n
  have h := h.keep0 n
  have h2 := h2.keep0 n
  refine st_step rfl (fun _ o => zG (zC c rfl j) o) (st_step rfl (fun _ o => zG (zC c rfl d) o) (st_index_rd slt54 (zA c rfl) h (zA c rfl) zx zx ?_))
  intro q s p r n
  refine st_step rfl (fun _ o => zN (v := (Value.int .u16 ((l.getD i 0).toNat : Int))) one46 (zA c rfl) (by have := n 0 (.int .u16 ((l.getD i 0).toNat : Int)) zz (el_u16 (i := i) zx zx); simpa using this) o) (st_step rfl (fun _ o => zG (zC c rfl k) o) (st_step rfl (fun _ o => zG (zC c rfl d) o) (st_index_rd slt54 (zA c rfl) h2 (zA c rfl) zx zx ?_)))
  intro s q r p n
  refine st_step rfl (fun _ o => zN (v := (Value.int .u16 ((m.getD i 0).toNat : Int))) one46 (zA c rfl) (by have := n 0 (.int .u16 ((m.getD i 0).toNat : Int)) zz (el_u16 (i := i) zx zx); simpa using this) o) (st_step rfl (fun _ o => op_cmp (b := (decide (((m.getD i 0).toNat : Int) < ((l.getD i 0).toNat : Int)))) (zA c rfl) (zA c rfl) (b_gtr rfl) o) (st_nil (f _ _ (wp_cond_split (zA c rfl) (fun p => ?_) (fun p => ?_)))))
  ·
   have p := of_decide_eq_true p
   refine zF fun _ f => zH (zD rfl (zB (f _ _ (wp_ret (zb (zO (zO (zb (zO ( (ret1 rfl g (zA c rfl) ⟨_, rfl, ?_⟩)))))))))))
   exact ⟨hb, congrArg (Value.int .i64) (by rw [cmpL, if_neg zx, if_neg zx, he, cmpG_step zx zx, if_neg zx, if_pos zx])⟩
  have p := of_decide_eq_false p
  refine wp_skip (e _ _ (zH (zG (zC c rfl d) (op_add (zA c rfl) rfl (add64 zx) (zD (zA c rfl) (zB ?_))))))
  -- round 10F 19T 30F 39F
  exact zg _ c g ⟨i + 1, rfl, (zL c rfl j), (zL c rfl k), (zU c rfl).trans (congrArg (Value.int .i64) zx), zx, (he.trans ((cmpG_step zx zx).trans (by rw [if_neg zx, if_neg zx]))), hb, zx, h, h2⟩ zx
 refine zB (f _ _ (wp_cond_false (zA c rfl) (wp_exit (then_exit (then_exit (blk_hit (a _ _ (zF fun _ a => zH (zD rfl (zB (a _ _ (wp_ret (ret1 rfl g (zA c rfl) ⟨_, rfl, ?_⟩)))))))))))))
 exact ⟨hb, congrArg (Value.int .i64) (by rw [cmpL, if_neg zx, if_neg zx, he, cmpG_end zx zx])⟩

theorem sameL_ret (l m : Lb) (v u : Value) (w : World) (hl : l.length ≤ 9223372036854775807) (hm : m.length ≤ 9223372036854775807) (h : RdC w 0 w.heap.size 1 v l.length (l.map u16v)) (h2 : RdC w 0 w.heap.size 1 u m.length (m.map u16v)) : Ret Try.prog 34 #[v, u] w (fun v' w' => Below w.heap.size w w' ∧ v' = .bool (decide (l = m))) := by
 have hb := Below.refl w.heap.size w
 refine enter (N := 9) Try.func34 rfl rfl (by simp) fun a hN hd hA => ?_
 have b : a.tmps.getD 0 undef = v := hA 0 (by simp)
 have c : a.tmps.getD 1 undef = u := hA 1 (by simp)
 clear hA
 refine zF fun _ a => zH (zD rfl ?_)
 refine zB (a _ _ (zF fun _ a => zH (zG (zC hN rfl b) (zG (zC hN rfl c) (zj ok78 (cmpL_ret l m _ _ _ (by first | assumption | omega | (simp only [List.length_append, List.length_cons, List.length_nil, List.length_drop, List.length_take]; omega) | (dsimp only; omega) | decide | (simp [keyV, be8_len]; done)) (by first | assumption | omega | (simp only [List.length_append, List.length_cons, List.length_nil, List.length_drop, List.length_take]; omega) | (dsimp only; omega) | decide | (simp [keyV, be8_len]; done)) (show RdC w 0 w.heap.size 1 v l.length (l.map u16v) from by have hh : RdC w 0 w.heap.size 1 _ _ _ := (h.mono (L' := 0) (B' := w.heap.size) (Nat.zero_le _) zx); first | exact hh | exact hh.cast (by first | omega | (simp; try omega)) (by first | rfl | simp [u16v])) (show RdC w 0 w.heap.size 1 u m.length (m.map u16v) from by have hh : RdC w 0 w.heap.size 1 _ _ _ := (h2.mono (L' := 0) (B' := w.heap.size) (Nat.zero_le _) zx); first | exact hh | exact hh.cast (by first | omega | (simp; try omega)) (by first | rfl | simp [u16v]))) ⟨(zA hN rfl), ⟨(zA hN rfl), trivial⟩⟩ ?_)))))
 rintro _ c ⟨b, rfl⟩
 have b := zQ b
 obtain ⟨hb, _⟩ := yE hb b
 refine op_eql (zA hN rfl) rfl (fun b => ?_) (fun b => ?_)
 ·
  refine zD (zA hN rfl) (zB (a _ _ (wp_ret (ret1 rfl hd (zA hN rfl) ⟨_, rfl, ?_⟩))))
  exact ⟨hb, congrArg Value.bool (decide_eq_true (cmpL_zero.1 b)).symm⟩
 refine zD (zA hN rfl) (zB (a _ _ (wp_ret (ret1 rfl hd (zA hN rfl) ⟨_, rfl, ?_⟩))))
 exact ⟨hb, congrArg Value.bool (decide_eq_false (fun hh => b (cmpL_zero.2 hh))).symm⟩

theorem isNaN_int_ret (m : Int) (w : World) : Ret Try.prog 139 #[(.int .i64 m)] w (fun v' w' => v' = .bool false ∧ w' = w) := by
 refine enter (N := 6) Try.func139 rfl rfl (by simp) fun a hN hd hA => ?_
 have b : a.tmps.getD 0 undef = (.int .i64 m) := hA 0 (by simp)
 clear hA
 refine zF fun _ a => zH (zD rfl (zB (a _ _ (zF fun _ a => zH (zG (zC hN rfl b) (zG (zC hN rfl b) (op_neq (zA hN rfl) (zA hN rfl) (fun c => ?_) (fun c => ?_))))))))
 ·
  refine zD (zA hN rfl) (zB (a _ _ (wp_ret (ret1 rfl hd (zA hN rfl) ⟨_, rfl, ?_⟩))))
  exact (c rfl).elim
 refine zD (zA hN rfl) (zB (a _ _ (wp_ret (ret1 rfl hd (zA hN rfl) ⟨_, rfl, ?_⟩))))
 exact ⟨rfl, rfl⟩

theorem cmpCompare_int_ret (m n : Int) (w : World) : Ret Try.prog 122 #[(.int .i64 m), (.int .i64 n)] w (fun v' w' => v' = .int .i64 (cmpI m n) ∧ w' = w) := by
 refine enter (N := 20) Try.func122 rfl rfl (by simp) fun a hN hd hA => ?_
 have b : a.tmps.getD 0 undef = (.int .i64 m) := hA 0 (by simp)
 have c : a.tmps.getD 1 undef = (.int .i64 n) := hA 1 (by simp)
 clear hA
 refine zF fun _ a => zH ?_
 refine zD rfl (zB (a _ _ (zF fun _ a => zH (zG (zC hN rfl b) (ze (vs := [(.int .i64 m)]) ok139 ⟨(zA hN rfl), trivial⟩ (Ret.flip (isNaN_int_ret m _)) ?_)))))
 rintro _ _ ⟨rfl, rfl⟩
 refine zD (zA hN rfl) (zB (a _ _ (zF fun _ a => zH (zG (zC hN rfl c) (ze (vs := [(.int .i64 n)]) ok139 ⟨(zA hN rfl), trivial⟩ (Ret.flip (isNaN_int_ret n _)) ?_)))))
 rintro _ _ ⟨rfl, rfl⟩
 refine zD (zA hN rfl) (zB (a _ _ (zF fun _ a => zF fun _ d => zH (zG (zA hN rfl) (zB (d _ _ (wp_cond_false (zA hN rfl) (wp_skip (a _ _ (zF fun _ a => ?_))))))))))
 refine zF fun _ d => zH (zG (zA hN rfl) (zB (d _ _ (wp_cond_false (zA hN rfl) (wp_skip (a _ _ (zF fun _ a => zF fun _ d => zH (zG (zC hN rfl b) (zG (zC hN rfl c) (op_lss (zA hN rfl) (zA hN rfl) (fun e => ?_) (fun e => ?_)))))))))))
 ·
  refine zB (d _ _ (wp_cond_true (zA hN rfl) (zF fun _ d => zH (zD rfl (zB (d _ _ (wp_ret (zO ( (ret1 rfl hd (zA hN rfl) ⟨_, rfl, ?_⟩))))))))))
  exact ⟨congrArg (Value.int .i64) (by simp only [cmpI]; (repeat' split) <;> omega), rfl⟩
 refine zB (d _ _ (wp_cond_false (zA hN rfl) (wp_skip (a _ _ (zF fun _ a => zF fun _ d => zH (zG (zC hN rfl b) (zG (zC hN rfl c) (op_gtr (zA hN rfl) (zA hN rfl) (fun e => ?_) (fun e => ?_)))))))))
 ·
  refine zB (d _ _ (wp_cond_true (zA hN rfl) (zF fun _ d => zH (zD rfl (zB (d _ _ (wp_ret (zO ( (ret1 rfl hd (zA hN rfl) ⟨_, rfl, ?_⟩))))))))))
  exact ⟨congrArg (Value.int .i64) (by simp only [cmpI]; (repeat' split) <;> omega), rfl⟩
 refine zB (d _ _ (wp_cond_false (zA hN rfl) (wp_skip (a _ _ (zF fun _ a => zH (zD rfl (zB (a _ _ (wp_ret (ret1 rfl hd (zA hN rfl) ⟨_, rfl, ?_⟩))))))))))
 exact ⟨congrArg (Value.int .i64) (by simp only [cmpI]; (repeat' split) <;> omega), rfl⟩

theorem Or_ret (m n : Int) (v : Value) (w : World) (hv : RdC w 0 w.heap.size 1 v 2 [(.int .i64 m), (.int .i64 n)]) : Ret Try.prog 121 #[v] w (fun v' w' => Below w.heap.size w w' ∧ v' = .int .i64 (if m = 0 then n else m)) := by
 have hb := Below.refl w.heap.size w
 refine enter (N := 18) Try.func121 rfl rfl (by simp) fun a hN hd hA => ?_
 have b : a.tmps.getD 0 undef = v := hA 0 (by simp)
 clear hA
 refine zF fun _ a => zH (zD rfl (zB (a _ _ (zF fun _ a => zH (zD rfl ?_)))))
 refine zB (a _ _ (zF fun _ a => zF fun _ c => zH (zG (zC hN rfl b) (op_len_rd Try.underlying35 (zA hN rfl) hv (zG rfl (zB (c _ _ (wp_block (wp_loop_rounds 3 ?_)))))))))
 refine rounds_any fun _ c => zF fun _ b => zH (op_bin (v := .bool true) (zA hN rfl) (zA hN rfl) (by rw [binOp_lss]; rfl) (zB (b _ _ (zF fun _ b => wp_cond_true (zA hN rfl) (wp_skip (b _ _ (zF fun _ b => wp_block (zF fun _ d => zH (zh slt35 (zA hN rfl) hv (zA hN rfl) zx zx ?_)))))))))
 intro j h f g e
 refine zN (v := (Value.int .i64 m)) one3 (zA hN rfl) (by have := e 0 (.int .i64 m) zz rfl; simpa using this) (zD (zA hN rfl) (zB (d _ _ (zF fun _ d => zH (zG (zA hN rfl) (zG (zA hN rfl) (op_neq (zA hN rfl) (zA hN rfl) (fun f => ?_) (fun f => ?_))))))))
 ·
  refine zB (d _ _ (wp_cond_true (zA hN rfl) (zF fun _ d => zH (zG (zA hN rfl) (zD (zA hN rfl) (zB (d _ _ (wp_ret (zb (zO (zO (zb (zO ( (ret1 rfl hd (zA hN rfl) ⟨_, rfl, ?_⟩)))))))))))))))
  exact ⟨hb, congrArg (Value.int .i64) (by split <;> omega)⟩
 refine zB (d _ _ (wp_cond_false (zA hN rfl) (wp_skip (b _ _ (zH (op_add (r := 1) (zA hN rfl) rfl zz (zG (zA hN rfl) (zB ?_))))))))
 refine c _ _ (rounds_any fun _ c => zF fun _ b => zH (op_bin (v := .bool true) (zA hN rfl) (zA hN rfl) (by rw [binOp_lss]; rfl) (zB (b _ _ (zF fun _ b => wp_cond_true (zA hN rfl) (wp_skip (b _ _ (zF fun _ b => wp_block (zF fun _ d => zH (zh slt35 (zA hN rfl) hv (zA hN rfl) zx zx ?_))))))))))
 intro g k j h e
 refine zN (v := (Value.int .i64 n)) one3 (zA hN rfl) (by have := e 0 (.int .i64 n) zz rfl; simpa using this) (zD (zA hN rfl) (zB (d _ _ (zF fun _ d => zH (zG (zA hN rfl) (zG (zA hN rfl) (op_neq (zA hN rfl) (zA hN rfl) (fun f => ?_) (fun f => ?_))))))))
 ·
  refine zB (d _ _ (wp_cond_true (zA hN rfl) (zF fun _ d => zH (zG (zA hN rfl) (zD (zA hN rfl) (zB (d _ _ (wp_ret (zb (zO (zO (zb (zO ( (ret1 rfl hd (zA hN rfl) ⟨_, rfl, ?_⟩)))))))))))))))
  exact ⟨hb, congrArg (Value.int .i64) (by split <;> omega)⟩
 refine zB (d _ _ (wp_cond_false (zA hN rfl) (wp_skip (b _ _ (zH (op_add (r := 2) (zA hN rfl) rfl zz (zG (zA hN rfl) (zB (c _ _ (rounds_any fun _ c => zF fun _ b => zH ?_))))))))))
 refine op_bin (v := .bool false) (zA hN rfl) (zA hN rfl) (by rw [binOp_lss]; rfl) (zB (b _ _ (zF fun _ b => wp_cond_false (zA hN rfl) (wp_exit (then_exit (then_exit (blk_hit (a _ _ (zF fun _ a => zH (zG (zA hN rfl) (zD (zA hN rfl) (zB (a _ _ (wp_ret (ret1 rfl hd (zA hN rfl) ⟨_, rfl, ?_⟩)))))))))))))))
 exact ⟨hb, congrArg (Value.int .i64) (by split <;> omega)⟩

theorem cmp16_ret (x y : UInt16) (w : World) : Ret Try.prog 140 #[(.int .u16 (x.toNat : Int)), (.int .u16 (y.toNat : Int))] w (fun v' w' => v' = .int .i64 (cmpI (x.toNat : Int) (y.toNat : Int)) ∧ w' = w) := by
 refine enter (N := 20) Try.func140 rfl rfl (by simp) fun a hN hd hA => ?_
 have b : a.tmps.getD 0 undef = (.int .u16 (x.toNat : Int)) := hA 0 (by simp)
 have c : a.tmps.getD 1 undef = (.int .u16 (y.toNat : Int)) := hA 1 (by simp)
 clear hA
 refine zF fun _ a => zH ?_
 refine zD rfl (zB (a _ _ (zF fun _ a => zH (zG (zC hN rfl b) (ze (vs := [(.int .u16 (x.toNat : Int))]) ok151 ⟨(zA hN rfl), trivial⟩ (Ret.flip (isNaN16_ret x _)) ?_)))))
 rintro _ _ ⟨rfl, rfl⟩
 refine zD (zA hN rfl) (zB (a _ _ (zF fun _ a => zH (zG (zC hN rfl c) (ze (vs := [(.int .u16 (y.toNat : Int))]) ok151 ⟨(zA hN rfl), trivial⟩ (Ret.flip (isNaN16_ret y _)) ?_)))))
 rintro _ _ ⟨rfl, rfl⟩
 refine zD (zA hN rfl) (zB (a _ _ (zF fun _ a => zF fun _ d => zH (zG (zA hN rfl) (zB (d _ _ (wp_cond_false (zA hN rfl) (wp_skip (a _ _ (zF fun _ a => ?_))))))))))
 refine zF fun _ d => zH (zG (zA hN rfl) (zB (d _ _ (wp_cond_false (zA hN rfl) (wp_skip (a _ _ (zF fun _ a => zF fun _ d => zH (zG (zC hN rfl b) (zG (zC hN rfl c) (op_lss (zA hN rfl) (zA hN rfl) (fun e => ?_) (fun e => ?_)))))))))))
 ·
  refine zB (d _ _ (wp_cond_true (zA hN rfl) (zF fun _ d => zH (zD rfl (zB (d _ _ (wp_ret (zO ( (ret1 rfl hd (zA hN rfl) ⟨_, rfl, ?_⟩))))))))))
  exact ⟨congrArg (Value.int .i64) (by simp only [cmpI]; (repeat' split) <;> omega), rfl⟩
 refine zB (d _ _ (wp_cond_false (zA hN rfl) (wp_skip (a _ _ (zF fun _ a => zF fun _ d => zH (zG (zC hN rfl b) (zG (zC hN rfl c) (op_gtr (zA hN rfl) (zA hN rfl) (fun e => ?_) (fun e => ?_)))))))))
 ·
  refine zB (d _ _ (wp_cond_true (zA hN rfl) (zF fun _ d => zH (zD rfl (zB (d _ _ (wp_ret (zO ( (ret1 rfl hd (zA hN rfl) ⟨_, rfl, ?_⟩))))))))))
  exact ⟨congrArg (Value.int .i64) (by simp only [cmpI]; (repeat' split) <;> omega), rfl⟩
 refine zB (d _ _ (wp_cond_false (zA hN rfl) (wp_skip (a _ _ (zF fun _ a => zH (zD rfl (zB (a _ _ (wp_ret (ret1 rfl hd (zA hN rfl) ⟨_, rfl, ?_⟩))))))))))
 exact ⟨congrArg (Value.int .i64) (by simp only [cmpI]; (repeat' split) <;> omega), rfl⟩

theorem scmpW_ret (l m : Lb) (v u : Value) (w : World) (hl2 : l.length ≤ 1000000000000) (hm2 : m.length ≤ 1000000000000) (hl : RdC w 0 w.heap.size 1 v l.length (l.map u16v)) (hm : RdC w 0 w.heap.size 1 u m.length (m.map u16v)) : Ret Try.prog 123 #[v, u] w (fun v' w' => Below w.heap.size w w' ∧ v' = .int .i64 (cmpG l m)) := by
 have hb := Below.refl w.heap.size w
 refine enter (N := 36) Try.func123 rfl rfl (by simp) fun a hN hd hA => ?_
 have b : a.tmps.getD 0 undef = v := hA 0 (by simp)
 have c : a.tmps.getD 1 undef = u := hA 1 (by simp)
 clear hA
 refine zF fun _ a => zH (zD rfl ?_)
 refine zB (a _ _ (zF fun _ a => zF fun _ d => zH (zG (zC hN rfl b) (op_len_rd Try.underlying54 (zA hN rfl) hl (zG rfl (zB (d _ _ (wp_block (loop_m (fun mz_ az_ w' => ∃ (i : Nat), mz_ = l.length - i ∧ (Sl az_ 0 v) ∧ (Sl az_ 1 u) ∧ (Sl az_ 9 v) ∧ (Sl az_ 10 (.int .i64 ((l.length : Nat) : Int))) ∧ (Sl az_ 11 (.int .i64 ((i : Nat) : Int))) ∧ (i ≤ l.length) ∧ (cmpG l m = cmpG (l.drop i) (m.drop i)) ∧ (Below w.heap.size w w') ∧ (w.heap.size ≤ w'.heap.size) ∧ (RdC w' 0 w.heap.size 1 v l.length (l.map u16v)) ∧ (RdC w' 0 w.heap.size 1 u m.length (m.map u16v))) _ hN hd ⟨0, rfl, (zL hN rfl b), (zL hN rfl c), (zU hN rfl), (zU hN rfl), (zU hN rfl), Nat.zero_le _, rfl, hb, (Nat.le_refl _), hl, hm⟩ ?_)))))))))
 rintro _ n o b c ⟨i, rfl, j, e, g, h, f, hi, he, hb, k, hl, hm⟩
 have := hb.size
 refine zF fun _ d => zH (op_lss (zC b rfl f) (zC b rfl h) (fun k => ?_) (fun k => ?_))
 ·
  refine zB (d _ _ (zF fun _ d => wp_cond_true (zA b rfl) (wp_skip (d _ _ (zF fun _ d => wp_block (zF fun _ k => zH (zG (zC b rfl f) (zh slt54 (zC b rfl g) hl (zC b rfl f) zx zx ?_))))))))
  intro r o p q n
  refine zN (v := (Value.int .u16 ((l.getD i 0).toNat : Int))) one46 (zA b rfl) (by have := n 0 (.int .u16 ((l.getD i 0).toNat : Int)) zz (el_u16 (i := i) zx zx); simpa using this) ?_
  refine zD (zA b rfl) (zD (zA b rfl) (zB (k _ _ (zF fun _ k => zF fun _ n => zH (zG (zA b rfl) (zG (zC b rfl e) (op_len_rd Try.underlying54 (zA b rfl) hm (op_geq (zA b rfl) (zA b rfl) (fun o => ?_) (fun o => ?_)))))))))
  ·
   refine zB (n _ _ (wp_cond_true (zA b rfl) (zF fun _ n => zH (zD rfl (zB (n _ _ (wp_ret (zO (zb (zO (zO (zb (zO ( (ret1 rfl c (zA b rfl) ⟨_, rfl, ?_⟩)))))))))))))))
   exact ⟨hb, congrArg (Value.int .i64) (by rw [he, cmpG_gt zx zx])⟩
  refine zB (n _ _ (wp_cond_false (zA b rfl) (wp_skip (k _ _ (zF fun _ k => zH (zG (zC b rfl e) (zG (zA b rfl) (zh slt54 (zA b rfl) hm (zA b rfl) zx zx ?_))))))))
  intro r o p q n
  refine zN (v := (Value.int .u16 ((m.getD i 0).toNat : Int))) one46 (zA b rfl) (by have := n 0 (.int .u16 ((m.getD i 0).toNat : Int)) zz (el_u16 (i := i) zx zx); simpa using this) (zD (zA b rfl) ?_)
  refine zB (k _ _ (zF fun _ k => zH (zG (zA b rfl) (zG (zA b rfl) (ze (vs := [(.int .u16 ((l.getD i 0).toNat : Int)), (.int .u16 ((m.getD i 0).toNat : Int))]) ok140 ⟨(zA b rfl), ⟨(zA b rfl), trivial⟩⟩ (Ret.flip (cmp16_ret (l.getD i 0) (m.getD i 0) _)) ?_)))))
  rintro _ _ ⟨rfl, rfl⟩
  refine zD (zA b rfl) (zB (k _ _ (zF fun _ k => zH (zG (zA b rfl) (op_neq (zA b rfl) rfl (fun n => ?_) (fun n => ?_))))))
  ·
   refine zB (k _ _ (wp_cond_true (zA b rfl) (zF fun _ k => zH (zG (zA b rfl) (zD (zA b rfl) (zB (k _ _ (wp_ret (zb (zO (zO (zb (zO ( (ret1 rfl c (zA b rfl) ⟨_, rfl, ?_⟩)))))))))))))))
   exact ⟨hb, congrArg (Value.int .i64) (by rw [he, cmpG_step zx zx]; simp only [cmpI] at n ⊢; (repeat' split) <;> (first | rfl | omega | (simp_all; done) | (exfalso; simp_all; omega)))⟩
  refine zB (k _ _ (wp_cond_false (zA b rfl) (wp_skip (d _ _ (zH (op_add (zC b rfl f) rfl (add64 zx) (zG (zA b rfl) (zB ?_))))))))
  -- round 12T 19F 28F
  exact zg _ b c ⟨i + 1, rfl, (zL b rfl j), (zL b rfl e), (zL b rfl g), (zL b rfl h), (zU b rfl).trans (congrArg (Value.int .i64) zx), zx, (he.trans ((cmpG_step zx zx).trans (by simp only [cmpI] at n; (repeat' split at n) <;> (first | omega | (rw [if_neg zx, if_neg zx]))))), hb, zx, hl, hm⟩ zx
 refine zB ?_
 refine d _ _ (zF fun _ d => wp_cond_false (zA b rfl) (wp_exit (then_exit (then_exit (blk_hit (a _ _ (zF fun _ a => zF fun _ d => zH (zG (zC b rfl j) (op_len_rd Try.underlying54 (zA b rfl) hl (zG (zC b rfl e) (op_len_rd Try.underlying54 (zA b rfl) hm (op_lss (zA b rfl) (zA b rfl) (fun f => ?_) (fun f => ?_)))))))))))))
 ·
  refine zB (d _ _ (wp_cond_true (zA b rfl) (zF fun _ d => zH (zD rfl (zB (d _ _ (wp_ret (zO ( (ret1 rfl c (zA b rfl) ⟨_, rfl, ?_⟩))))))))))
  exact ⟨hb, congrArg (Value.int .i64) (by rw [he, cmpG_lt zx zx])⟩
 refine zB (d _ _ (wp_cond_false (zA b rfl) (wp_skip (a _ _ (zF fun _ a => zH (zD rfl (zB (a _ _ (wp_ret (ret1 rfl c (zA b rfl) ⟨_, rfl, ?_⟩))))))))))
 exact ⟨hb, congrArg (Value.int .i64) (by rw [he, cmpG_end zx zx])⟩

theorem lcmpW_ret (l m : Lb) (v u : Value) (w : World) (hl2 : l.length ≤ 1000000000000) (hm2 : m.length ≤ 1000000000000) (hl : RdC w 0 w.heap.size 1 v l.length (l.map u16v)) (hm : RdC w 0 w.heap.size 1 u m.length (m.map u16v)) : Ret Try.prog 98 #[v, u] w (fun v' w' => Below w.heap.size w w' ∧ v' = .int .i64 (cmpL l m)) := by
 have hb := Below.refl w.heap.size w
 refine enter (N := 15) Try.func98 rfl rfl (by simp) fun a hN hd hA => ?_
 have b : a.tmps.getD 0 undef = v := hA 0 (by simp)
 have c : a.tmps.getD 1 undef = u := hA 1 (by simp)
 clear hA
 refine zF fun _ a => zH (zD rfl (zB (a _ _ (zF fun _ a => ?_))))
 refine zH (zG (zC hN rfl b) (op_len_rd Try.underlying54 (zA hN rfl) hl (zG (zC hN rfl c) (op_len_rd Try.underlying54 (zA hN rfl) hm (ze (vs := [(.int .i64 ((l.length : Nat) : Int)), (.int .i64 ((m.length : Nat) : Int))]) ok122 ⟨(zA hN rfl), ⟨(zA hN rfl), trivial⟩⟩ (Ret.flip (cmpCompare_int_ret ((l.length : Nat) : Int) ((m.length : Nat) : Int) _)) ?_)))))
 rintro _ _ ⟨rfl, rfl⟩
 refine zG (zC hN rfl b) (zG (zC hN rfl c) (zj ok123 (scmpW_ret l m _ _ _ (by first | assumption | omega | (simp only [List.length_append, List.length_cons, List.length_nil, List.length_drop, List.length_take]; omega) | (dsimp only; omega) | decide | (simp [keyV, be8_len]; done)) (by first | assumption | omega | (simp only [List.length_append, List.length_cons, List.length_nil, List.length_drop, List.length_take]; omega) | (dsimp only; omega) | decide | (simp [keyV, be8_len]; done)) (show RdC w 0 w.heap.size 1 v l.length (l.map u16v) from by have hh : RdC w 0 w.heap.size 1 _ _ _ := (hl.mono (L' := 0) (B' := w.heap.size) (Nat.zero_le _) zx); first | exact hh | exact hh.cast (by first | omega | (simp; try omega)) (by first | rfl | simp [u16v])) (show RdC w 0 w.heap.size 1 u m.length (m.map u16v) from by have hh : RdC w 0 w.heap.size 1 _ _ _ := (hm.mono (L' := 0) (B' := w.heap.size) (Nat.zero_le _) zx); first | exact hh | exact hh.cast (by first | omega | (simp; try omega)) (by first | rfl | simp [u16v]))) ⟨(zA hN rfl), ⟨(zA hN rfl), trivial⟩⟩ ?_))
 rintro _ c ⟨b, rfl⟩
 have b := zQ b
 obtain ⟨hb, _⟩ := yE hb b
 refine op_bslice (e := 3) (pv := [(0, (.int .i64 (cmpI ((l.length : Nat) : Int) ((m.length : Nat) : Int)))), (1, (.int .i64 (cmpG l m)))]) (cs := [(.int .i64 (cmpI ((l.length : Nat) : Int) ((m.length : Nat) : Int))), (.int .i64 (cmpG l m))]) ⟨rfl, (zA hN rfl), ⟨rfl, (zA hN rfl), trivial⟩⟩ zy ?_
 intro h g j f c d
 obtain ⟨hb, _⟩ := yE hb d
 refine zj ok121 (Or_ret (cmpI ((l.length : Nat) : Int) ((m.length : Nat) : Int)) (cmpG l m) _ _ ((RdC.ofBx (sz := 1) (n := 2) c rfl zz).mono (Nat.zero_le _) (by have := c.lt; omega))) ⟨(zA hN rfl), trivial⟩ ?_
 rintro _ f ⟨c, rfl⟩
 have c := zQ c
 obtain ⟨hb, _⟩ := yE hb c
 have hl := ((hl.keep0 b).keep0 d).keep0 c
 refine zD (zA hN rfl) (zB (a _ _ (wp_ret (ret1 rfl hd (zA hN rfl) ⟨_, rfl, ?_⟩))))
 exact ⟨hb, congrArg (Value.int .i64) cmpL_or⟩

theorem hasS {base p : Nat} {la rv wv : Value} {lab : List UInt16} {stp : Int} {D : List RD} {Wr : List (List UInt8)} {dm : Bool} {p9 : List UInt8 → Bool} {w : World} (hbase : base ≤ w.heap.size) (hx : Bx w p 164 [la, .int .u64 stp, rv, wv, .bool dm]) (hLa : Own w base 46 1 la lab.length (lab.map u16v)) (hR : Own w base 169 2 rv D.length (D.flatMap cellsRd)) (hD : ∀ x9 ∈ D.map rdL, Own w base 46 1 x9.1 x9.2.length (x9.2.map u16v)) (hW : Own w base 9 1 wv Wr.length (Wr.map sv)) (h8 : lab.length ≤ 8 ∧ ∀ r ∈ D, r.lab.length ≤ 8) {g : Nat} {fs cs : List Value} (hokg : callOk Try.prog g = true) (hf : ∀ i, i < Wr.length → ∀ w1, Below w.heap.size w w1 → Ret Try.prog g (fs ++ [Value.string (bs (Wr.getD i []))] ++ cs).toArray w1 (fun v' w' => Below w1.heap.size w1 w' ∧ v' = .bool (p9 (Wr.getD i [])))) : Ret Try.prog 107 #[(ptr p 3), (Value.func (.func g) fs.toArray cs.toArray)] w (fun v' w' => Below w.heap.size w w' ∧ v' = .bool (Wr.any p9)) := by
 have hb := Below.refl w.heap.size w
 refine enter (N := 11) Try.func107 rfl rfl (by simp) fun a hN hd hA => ?_
 have b : a.tmps.getD 0 undef = (ptr p 3) := hA 0 (by simp)
 have c : a.tmps.getD 1 undef = (.func (.func g) fs.toArray cs.toArray) := hA 1 (by simp)
 clear hA
 refine zF fun _ a => zH (zD rfl (zB (a _ _ (zF fun _ a => ?_))))
 refine zH (zG (zC hN rfl b) (op_nil (zA hN rfl) (zM fld162_0 (zA hN rfl) (zN one26 (zA hN rfl) (hx.cell rfl) (zG (zC hN rfl c) (zj ok124 (ContF_s (p := p9) (hW.rdw.mono (Nat.zero_le _) zx) hokg (fun i hi w1 E => hf i hi w1 (zP hb (zQ E) hb.size))) ⟨(zA hN rfl), ⟨(zA hN rfl), trivial⟩⟩ ?_))))))
 rintro _ w1 ⟨b, rfl⟩
 have b := zQ b
 obtain ⟨hb, _⟩ := yE hb b
 refine zD (zA hN rfl) (zB (a _ _ (wp_ret (ret1 rfl hd (zA hN rfl) ⟨_, rfl, ?_⟩))))
 exact ⟨hb, rfl⟩

theorem hasR {base p : Nat} {la rv wv : Value} {lab : List UInt16} {stp : Int} {D : List RD} {Wr : List (List UInt8)} {dm : Bool} {p9 : RD → Bool} {w : World} (hbase : base ≤ w.heap.size) (hx : Bx w p 164 [la, .int .u64 stp, rv, wv, .bool dm]) (hLa : Own w base 46 1 la lab.length (lab.map u16v)) (hR : Own w base 169 2 rv D.length (D.flatMap cellsRd)) (hD : ∀ x9 ∈ D.map rdL, Own w base 46 1 x9.1 x9.2.length (x9.2.map u16v)) (hW : Own w base 9 1 wv Wr.length (Wr.map sv)) (h8 : lab.length ≤ 8 ∧ ∀ r ∈ D, r.lab.length ≤ 8) {g : Nat} {fs cs : List Value} (hokg : callOk Try.prog g = true) (hf : ∀ i, i < D.length → ∀ w1, Below w.heap.size w w1 → Ret Try.prog g (fs ++ [Value.agg #[.string (bs (D.getD i default).tab), (D.getD i default).la]] ++ cs).toArray w1 (fun v' w' => Below w1.heap.size w1 w' ∧ v' = .bool (p9 (D.getD i default)))) : Ret Try.prog 130 #[(ptr p 2), (Value.func (.func g) fs.toArray cs.toArray)] w (fun v' w' => Below w.heap.size w w' ∧ v' = .bool (D.any p9)) := by
 have hb := Below.refl w.heap.size w
 refine enter (N := 11) Try.func130 rfl rfl (by simp) fun a hN hd hA => ?_
 have b : a.tmps.getD 0 undef = (ptr p 2) := hA 0 (by simp)
 have c : a.tmps.getD 1 undef = (.func (.func g) fs.toArray cs.toArray) := hA 1 (by simp)
 clear hA
 refine zF fun _ a => zH (zD rfl (zB (a _ _ (zF fun _ a => ?_))))
 refine zH (zG (zC hN rfl b) (op_nil (zA hN rfl) (zM fld160_0 (zA hN rfl) (zN one158 (zA hN rfl) (hx.cell rfl) (zG (zC hN rfl c) (zj ok126 (ContF_r (p := p9) (hR.rdw.mono (Nat.zero_le _) zx) hokg (fun i hi w1 E => hf i hi w1 (zP hb (zQ E) hb.size))) ⟨(zA hN rfl), ⟨(zA hN rfl), trivial⟩⟩ ?_))))))
 rintro _ c ⟨b, rfl⟩
 have b := zQ b
 obtain ⟨hb, _⟩ := yE hb b
 refine zD (zA hN rfl) (zB (a _ _ (wp_ret (ret1 rfl hd (zA hN rfl) ⟨_, rfl, ?_⟩))))
 exact ⟨hb, rfl⟩

theorem writ1 {x y : List UInt8} {tb : Nat} {w : World} (hb9 : Bx w tb 9 [.string (bs x)]) : Ret Try.prog 142 #[(.string (bs y)), (ptr tb 0)] w (fun v' w' => Below w.heap.size w w' ∧ v' = .bool (decide (y = x))) := by
 have hb := Below.refl w.heap.size w
 refine enter (N := 7) Try.func142 rfl rfl (by simp) fun a hN hd hA => ?_
 have b : a.tmps.getD 0 undef = (.string (bs y)) := hA 0 (by simp)
 have c : a.tmps.getD 1 undef = (ptr tb 0) := hA 1 (by simp)
 clear hA
 refine zF fun _ a => zH (zD rfl (zB (a _ _ (zF fun _ a => zH (zG (zC hN rfl b) (zN one9 (zC hN rfl c) (hb9.cell rfl) (op_seql (zA hN rfl) (zA hN rfl) (fun d => ?_) (fun d => ?_))))))))
 ·
  refine zD (zA hN rfl) (zB (a _ _ (wp_ret (ret1 rfl hd (zA hN rfl) ⟨_, rfl, ?_⟩))))
  exact ⟨hb, congrArg Value.bool (decide_eq_true d).symm⟩
 refine zD (zA hN rfl) (zB (a _ _ (wp_ret (ret1 rfl hd (zA hN rfl) ⟨_, rfl, ?_⟩))))
 exact ⟨hb, congrArg Value.bool (decide_eq_false d).symm⟩

theorem covers1 {x : List UInt8} {l : List UInt16} {lv : Value} {r : RD} {tb lb : Nat} {w : World} (hb9 : Bx w tb 9 [.string (bs x)]) (hb54 : Bx w lb 54 [lv]) (hl : RdC w 0 w.heap.size 1 lv l.length (l.map u16v)) (hr : RdC w 0 w.heap.size 1 r.la r.lab.length (r.lab.map u16v)) (hl8 : l.length ≤ 8) (hr8 : r.lab.length ≤ 8) : Ret Try.prog 131 #[(.agg #[(.string (bs r.tab)), r.la]), (ptr tb 0), (ptr lb 0)] w (fun v' w' => Below w.heap.size w w' ∧ v' = .bool (decide (r.tab = x) && flowsL l r.lab)) := by
 have hb := Below.refl w.heap.size w
 refine enter (N := 15) Try.func131 rfl rfl (by simp) fun a hN hd hA => ?_
 have c : a.tmps.getD 0 undef = (.agg #[(.string (bs r.tab)), r.la]) := hA 0 (by simp)
 have d : a.tmps.getD 1 undef = (ptr tb 0) := hA 1 (by simp)
 have e : a.tmps.getD 2 undef = (ptr lb 0) := hA 2 (by simp)
 clear hA
 refine zF fun _ a => zH (op_box (cs := [(.string (bs r.tab)), r.la]) (zC hN rfl c) rfl ?_)
 intro c m h k g f
 obtain ⟨hb, _⟩ := yE hb f
 have hb9 := hb9.keep0 f
 have hb54 := hb54.keep0 f
 have hl := hl.keep0 f
 have hr := hr.keep0 f
 refine zD rfl (zB (a _ _ (zF fun _ a => zH (zM fld169_0 (zA hN rfl) (zN one9 (zA hN rfl) (g.cell rfl) (zN one9 (zC hN rfl d) (hb9.cell rfl) (op_seql (zA hN rfl) (zA hN rfl) (fun f => ?_) (fun f => ?_))))))))
 ·
  refine zG (zA hN rfl) (zS (j := 4) (dj := 9) (b := true) rfl rfl rfl (zA hN rfl) (zN one54 (zC hN rfl e) (hb54.cell rfl) ?_))
  refine zS (j := 4) (dj := 9) (b := true) rfl rfl rfl (zA hN rfl) (zM fld169_1 (zA hN rfl) (zS (j := 4) (dj := 9) (b := true) rfl rfl rfl (zA hN rfl) (zN one54 (zA hN rfl) (g.cell rfl) (zS (j := 4) (dj := 9) (b := true) rfl rfl rfl (zA hN rfl) (zj ok106 (flowsW_ret l r.lab _ _ _ (by first | assumption | omega | (simp only [List.length_append, List.length_cons, List.length_nil, List.length_drop, List.length_take]; omega) | (dsimp only; omega) | decide | (simp [keyV, be8_len]; done)) (by first | assumption | omega | (simp only [List.length_append, List.length_cons, List.length_nil, List.length_drop, List.length_take]; omega) | (dsimp only; omega) | decide | (simp [keyV, be8_len]; done)) (show RdC c 0 c.heap.size 1 lv l.length (l.map u16v) from by have hh : RdC c 0 c.heap.size 1 _ _ _ := (hl.mono (L' := 0) (B' := c.heap.size) (Nat.zero_le _) zx); first | exact hh | exact hh.cast (by first | omega | (simp; try omega)) (by first | rfl | simp [u16v])) (show RdC c 0 c.heap.size 1 r.la r.lab.length (r.lab.map u16v) from by have hh : RdC c 0 c.heap.size 1 _ _ _ := (hr.mono (L' := 0) (B' := c.heap.size) (Nat.zero_le _) zx); first | exact hh | exact hh.cast (by first | omega | (simp; try omega)) (by first | rfl | simp [u16v]))) ⟨(zA hN rfl), ⟨(zA hN rfl), trivial⟩⟩ ?_)))))
  rintro _ d ⟨c, rfl⟩
  have c := zQ c
  obtain ⟨hb, _⟩ := yE hb c
  have hl := hl.keep0 c
  refine zc (zA hN rfl) (zA hN rfl) (zD (zA hN rfl) (zB (a _ _ (wp_ret (ret1 rfl hd (zA hN rfl) ⟨_, rfl, ?_⟩)))))
  exact ⟨hb, congrArg Value.bool (by rw [decide_eq_true f, Bool.true_and])⟩
 refine zG (zA hN rfl) (zR (j := 4) (dj := 9) (b := true) rfl rfl rfl (zA hN rfl) rfl rfl (zR (j := 4) (dj := 9) (b := true) rfl rfl rfl (zA hN rfl) rfl rfl (zR (j := 4) (dj := 9) (b := true) rfl rfl rfl (zA hN rfl) rfl rfl (zR (j := 4) (dj := 9) (b := true) rfl rfl rfl (zA hN rfl) rfl rfl (zd (zA hN rfl) rfl (zD (zA hN rfl) (zB (a _ _ (wp_ret (ret1 rfl hd (zA hN rfl) ⟨_, rfl, ?_⟩))))))))))
 exact ⟨hb, congrArg Value.bool (by rw [decide_eq_false f, Bool.false_and])⟩

theorem writT {base p : Nat} {la rv wv : Value} {lab : List UInt16} {stp : Int} {D : List RD} {Wr : List (List UInt8)} {dm : Bool} {x : List UInt8} {w : World} (hbase : base ≤ w.heap.size) (hx : Bx w p 164 [la, .int .u64 stp, rv, wv, .bool dm]) (hLa : Own w base 46 1 la lab.length (lab.map u16v)) (hR : Own w base 169 2 rv D.length (D.flatMap cellsRd)) (hD : ∀ x9 ∈ D.map rdL, Own w base 46 1 x9.1 x9.2.length (x9.2.map u16v)) (hW : Own w base 9 1 wv Wr.length (Wr.map sv)) (h8 : lab.length ≤ 8 ∧ ∀ r ∈ D, r.lab.length ≤ 8) : Ret Try.prog 125 #[(ptr p 0), (.string (bs x))] w (fun v' w' => Below w.heap.size w w' ∧ v' = .bool (writB Wr x)) := by
 have hb := Below.refl w.heap.size w
 refine enter (N := 10) Try.func125 rfl rfl (by simp) fun a hN hd hA => ?_
 have b : a.tmps.getD 0 undef = (ptr p 0) := hA 0 (by simp)
 have c : a.tmps.getD 1 undef = (.string (bs x)) := hA 1 (by simp)
 clear hA
 refine zF fun _ a => zH (op_box (cs := [(.string (bs x))]) (zC hN rfl c) rfl ?_)
 intro j d f k e c
 obtain ⟨hb, _⟩ := yE hb c
 have hx := hx.keep0 c
 have hLa := hLa.keep0 c
 have hR := hR.keep0 c
 have hD := all9 hD fun _ h => h.keep0 c
 have hW := hW.keep0 c
 refine zD rfl (zB ?_)
 refine a _ _ (zF fun _ a => zH (zG (zC hN rfl b) (op_nil (zA hN rfl) (zM fld164_3 (zA hN rfl) (op_mkfn (cv := [(ptr d 0)]) ⟨(zA hN rfl), trivial⟩ (ze (vs := [(ptr p 3), (.func (.func 142) #[] #[(ptr d 0)])]) ok107 ⟨(zA hN rfl), ⟨(zA hN rfl), trivial⟩⟩ (hasS zx hx hLa hR hD hW h8 (p9 := (fun y => decide (y = x))) (g := 142) (fs := []) (cs := [(ptr d 0)]) ok142 (fun i hi c E => writ1 (e.keep0 (zQ E)))) ?_))))))
 rintro _ c ⟨b, rfl⟩
 have b := zQ b
 obtain ⟨hb, _⟩ := yE hb b
 refine zD (zA hN rfl) (zB (a _ _ (wp_ret (ret1 rfl hd (zA hN rfl) ⟨_, rfl, ?_⟩))))
 exact ⟨hb, rfl⟩

theorem coversT {base p : Nat} {la rv wv : Value} {lab : List UInt16} {stp : Int} {D : List RD} {Wr : List (List UInt8)} {dm : Bool} {x : List UInt8} {l : List UInt16} {lv : Value} {w : World} (hbase : base ≤ w.heap.size) (hx : Bx w p 164 [la, .int .u64 stp, rv, wv, .bool dm]) (hLa : Own w base 46 1 la lab.length (lab.map u16v)) (hR : Own w base 169 2 rv D.length (D.flatMap cellsRd)) (hD : ∀ x9 ∈ D.map rdL, Own w base 46 1 x9.1 x9.2.length (x9.2.map u16v)) (hW : Own w base 9 1 wv Wr.length (Wr.map sv)) (h8 : lab.length ≤ 8 ∧ ∀ r ∈ D, r.lab.length ≤ 8) (hl : RdC w 0 w.heap.size 1 lv l.length (l.map u16v)) (hl8 : l.length ≤ 8) : Ret Try.prog 109 #[(ptr p 0), (.string (bs x)), lv] w (fun v' w' => Below w.heap.size w w' ∧ v' = .bool (covB (D.map rOf) x l)) := by
 have hb := Below.refl w.heap.size w
 refine enter (N := 12) Try.func109 rfl rfl (by simp) fun a hN hd hA => ?_
 have b : a.tmps.getD 0 undef = (ptr p 0) := hA 0 (by simp)
 have c : a.tmps.getD 1 undef = (.string (bs x)) := hA 1 (by simp)
 have d : a.tmps.getD 2 undef = lv := hA 2 (by simp)
 clear hA
 refine zF fun _ a => zH (op_box (cs := [(.string (bs x))]) (zC hN rfl c) rfl ?_)
 intro k e j m f c
 obtain ⟨hb, _⟩ := yE hb c
 have hl := hl.keep0 c
 have hD := all9 hD fun _ h => h.keep0 c
 refine op_box (cs := [lv]) (zC hN rfl d) (RdC.cells hl) ?_
 intro n j o m k d
 obtain ⟨hb, _⟩ := yE hb d
 have hl := hl.keep0 d
 have hx := (hx.keep0 c).keep0 d
 have hLa := (hLa.keep0 c).keep0 d
 have hR := (hR.keep0 c).keep0 d
 have hD := all9 hD fun _ h => h.keep0 d
 have hW := (hW.keep0 c).keep0 d
 have f := f.keep0 d
 refine zD rfl (zB ?_)
 refine a _ _ (zF fun _ a => zH (zG (zC hN rfl b) (op_nil (zA hN rfl) (zM fld164_2 (zA hN rfl) (op_mkfn (cv := [(ptr e 0), (ptr j 0)]) ⟨(zA hN rfl), ⟨(zA hN rfl), trivial⟩⟩ (ze (vs := [(ptr p 2), (.func (.func 131) #[] #[(ptr e 0), (ptr j 0)])]) ok130 ⟨(zA hN rfl), ⟨(zA hN rfl), trivial⟩⟩ (hasR zx hx hLa hR hD hW h8 (p9 := (fun r => decide (r.tab = x) && flowsL l r.lab)) (g := 131) (fs := []) (cs := [(ptr e 0), (ptr j 0)]) ok131 (fun i hi c E => covers1 (r := D.getD i default) (f.keep0 (zQ E)) (k.keep0 (zQ E)) ((hl.keep0 (zQ E)).mono (Nat.zero_le _) (by have := E.size; omega)) (((hD _ (List.mem_map.2 ⟨_, getD_mem hi, rfl⟩)).keep0 (zQ E)).rdw.mono (Nat.zero_le _) (Nat.le_refl _)) zx (h8.2 _ (getD_mem hi)))) ?_))))))
 rintro _ c ⟨b, rfl⟩
 have b := zQ b
 obtain ⟨hb, _⟩ := yE hb b
 have hl := hl.keep0 b
 refine zD (zA hN rfl) (zB (a _ _ (wp_ret (ret1 rfl hd (zA hN rfl) ⟨_, rfl, ?_⟩))))
 exact ⟨hb, congrArg Value.bool covB_map⟩

theorem standsT {base p : Nat} {la rv wv : Value} {lab : List UInt16} {stp : Int} {D : List RD} {Wr : List (List UInt8)} {dm : Bool} {Rs : List (List UInt8)} {rsv : Value} {x : List UInt8} {l : List UInt16} {lv : Value} {w : World} (hbase : base ≤ w.heap.size) (hx : Bx w p 164 [la, .int .u64 stp, rv, wv, .bool dm]) (hLa : Own w base 46 1 la lab.length (lab.map u16v)) (hR : Own w base 169 2 rv D.length (D.flatMap cellsRd)) (hD : ∀ x9 ∈ D.map rdL, Own w base 46 1 x9.1 x9.2.length (x9.2.map u16v)) (hW : Own w base 9 1 wv Wr.length (Wr.map sv)) (h8 : lab.length ≤ 8 ∧ ∀ r ∈ D, r.lab.length ≤ 8) (hRs : RdC w 0 w.heap.size 1 rsv Rs.length (Rs.map sv)) (hl : RdC w 0 w.heap.size 1 lv l.length (l.map u16v)) (hl8 : l.length ≤ 8) : Ret Try.prog 99 #[(ptr p 0), rsv, (.string (bs x)), lv] w (fun v' w' => Below w.heap.size w w' ∧ v' = .bool (standB ⟨lab, stp, D.map rOf, Wr, dm⟩ Rs x l)) := by
 have hb := Below.refl w.heap.size w
 refine enter (N := 28) Try.func99 rfl rfl (by simp) fun a hN hd hA => ?_
 have c : a.tmps.getD 0 undef = (ptr p 0) := hA 0 (by simp)
 have d : a.tmps.getD 1 undef = rsv := hA 1 (by simp)
 have e : a.tmps.getD 2 undef = (.string (bs x)) := hA 2 (by simp)
 have f : a.tmps.getD 3 undef = lv := hA 3 (by simp)
 clear hA
 refine zF fun _ a => zH (zD rfl (zB ?_))
 refine a _ _ (zF fun _ a => zH (zG (zC hN rfl d) (zG (zC hN rfl c) (op_mkfn1 (fv := [(ptr p 0)]) (cv := []) ⟨(zA hN rfl), trivial⟩ trivial (zj ok124 (ContF_s (g := 125) (fs := [(ptr p 0)]) (cs := []) (p := (writB Wr)) (hRs.mono (Nat.zero_le _) zx) ok125 (fun i hi k E => writT (by have := E.size; omega) (hx.keep0 (zQ E)) (hLa.keep0 (zQ E)) (hR.keep0 (zQ E)) (fun x9 m => (hD x9 m).keep0 (zQ E)) (hW.keep0 (zQ E)) h8)) ⟨(zA hN rfl), ⟨(zA hN rfl), trivial⟩⟩ ?_)))))
 rintro _ k ⟨d, rfl⟩
 have d := zQ d
 obtain ⟨hb, _⟩ := yE hb d
 have hl := hl.keep0 d
 have hx := hx.keep0 d
 have hLa := hLa.keep0 d
 have hR := hR.keep0 d
 have hD := all9 hD fun _ h => h.keep0 d
 have hW := hW.keep0 d
 rcases Bool.eq_false_or_eq_true ((Rs.any (writB Wr))) with d | d
 ·
  rw [d]
  refine zG (zA hN rfl) (zR (j := 4) (dj := 13) (b := false) rfl rfl rfl (zA hN rfl) rfl rfl (zR (j := 4) (dj := 13) (b := false) rfl rfl rfl (zA hN rfl) rfl rfl (zR (j := 4) (dj := 13) (b := false) rfl rfl rfl (zA hN rfl) rfl rfl (g_undef (j := 7) (dj := 16) (b := true) rfl rfl rfl (zA hN rfl) rfl (g_undef (j := 7) (dj := 16) (b := true) rfl rfl rfl (zA hN rfl) rfl (g_undef (j := 7) (dj := 16) (b := true) rfl rfl rfl (zA hN rfl) rfl (g_undef (j := 7) (dj := 16) (b := true) rfl rfl rfl (zA hN rfl) rfl (g_undef (j := 11) (dj := 20) (b := false) rfl rfl rfl (zA hN rfl) rfl ?_))))))))
  refine g_undef (j := 11) (dj := 20) (b := false) rfl rfl rfl (zA hN rfl) rfl (g_undef (j := 11) (dj := 20) (b := false) rfl rfl rfl (zA hN rfl) rfl (g_undef (j := 11) (dj := 20) (b := false) rfl rfl rfl (zA hN rfl) rfl (g_undef (j := 7) (dj := 16) (b := true) rfl rfl rfl (zA hN rfl) rfl (zR (j := 4) (dj := 13) (b := false) rfl rfl rfl (zA hN rfl) rfl rfl (zc (zA hN rfl) rfl (zD (zA hN rfl) (zB (a _ _ (wp_ret (ret1 rfl hd (zA hN rfl) ⟨_, rfl, ?_⟩))))))))))
  exact ⟨hb, congrArg Value.bool (by unfold standB; rw [d]; rfl)⟩
 rw [d]
 refine zG (zA hN rfl) (zS (j := 4) (dj := 13) (b := false) rfl rfl rfl (zA hN rfl) (zG (zC hN rfl e) (zS (j := 4) (dj := 13) (b := false) rfl rfl rfl (zA hN rfl) (op_sneq (zA hN rfl) rfl (fun k => ?_) (fun k => ?_)))))
 ·
  refine zS (j := 4) (dj := 13) (b := false) rfl rfl rfl (zA hN rfl) (zG (zA hN rfl) ?_)
  refine zS (j := 7) (dj := 16) (b := true) rfl rfl rfl (zA hN rfl) (zG (zC hN rfl c) (zS (j := 7) (dj := 16) (b := true) rfl rfl rfl (zA hN rfl) (zG (zC hN rfl e) (zS (j := 7) (dj := 16) (b := true) rfl rfl rfl (zA hN rfl) (zj ok125 (writT zx hx hLa hR hD hW h8) ⟨(zA hN rfl), ⟨(zA hN rfl), trivial⟩⟩ ?_)))))
  rintro _ n ⟨m, rfl⟩
  have m := zQ m
  obtain ⟨hb, _⟩ := yE hb m
  have hl := hl.keep0 m
  have hx := hx.keep0 m
  have hLa := hLa.keep0 m
  have hR := hR.keep0 m
  have hD := all9 hD fun _ h => h.keep0 m
  have hW := hW.keep0 m
  rcases Bool.eq_false_or_eq_true ((writB Wr x)) with m | m
  ·
   rw [m]
   refine zS (j := 7) (dj := 16) (b := true) rfl rfl rfl (zA hN rfl) (zG (zA hN rfl) (zR (j := 11) (dj := 20) (b := false) rfl rfl rfl (zA hN rfl) rfl rfl (zR (j := 11) (dj := 20) (b := false) rfl rfl rfl (zA hN rfl) rfl rfl (zR (j := 11) (dj := 20) (b := false) rfl rfl rfl (zA hN rfl) rfl rfl ?_))))
   refine zR (j := 11) (dj := 20) (b := false) rfl rfl rfl (zA hN rfl) rfl rfl (zS (j := 7) (dj := 16) (b := true) rfl rfl rfl (zA hN rfl) (zc (zA hN rfl) rfl (zS (j := 4) (dj := 13) (b := false) rfl rfl rfl (zA hN rfl) (zc (zA hN rfl) (zA hN rfl) (zd (zA hN rfl) (zA hN rfl) (zD (zA hN rfl) (zB (a _ _ (wp_ret (ret1 rfl hd (zA hN rfl) ⟨_, rfl, ?_⟩))))))))))
   exact ⟨hb, congrArg Value.bool (by unfold standB; rw [d, decide_eq_true k, m]; rfl)⟩
  rw [m]
  refine zS (j := 7) (dj := 16) (b := true) rfl rfl rfl (zA hN rfl) (zG (zA hN rfl) (zS (j := 11) (dj := 20) (b := false) rfl rfl rfl (zA hN rfl) (zG (zC hN rfl c) ?_)))
  refine zS (j := 11) (dj := 20) (b := false) rfl rfl rfl (zA hN rfl) (zG (zC hN rfl e) (zS (j := 11) (dj := 20) (b := false) rfl rfl rfl (zA hN rfl) (zG (zC hN rfl f) (zS (j := 11) (dj := 20) (b := false) rfl rfl rfl (zA hN rfl) (zj ok109 (coversT zx hx hLa hR hD hW h8 (hl.mono (Nat.zero_le _) zx) zx) ⟨(zA hN rfl), ⟨(zA hN rfl), ⟨(zA hN rfl), trivial⟩⟩⟩ ?_)))))
  rintro _ e ⟨c, rfl⟩
  have c := zQ c
  obtain ⟨hb, _⟩ := yE hb c
  have hl := hl.keep0 c
  refine zS (j := 7) (dj := 16) (b := true) rfl rfl rfl (zA hN rfl) (zd (zA hN rfl) (zA hN rfl) (zS (j := 4) (dj := 13) (b := false) rfl rfl rfl (zA hN rfl) (zc (zA hN rfl) (zA hN rfl) (zd (zA hN rfl) (zA hN rfl) (zD (zA hN rfl) (zB (a _ _ (wp_ret (ret1 rfl hd (zA hN rfl) ⟨_, rfl, ?_⟩)))))))))
  exact ⟨hb, congrArg Value.bool (by unfold standB; rw [d, decide_eq_true k, m]; rfl)⟩
 refine zS (j := 4) (dj := 13) (b := false) rfl rfl rfl (zA hN rfl) (zG (zA hN rfl) (zR (j := 7) (dj := 16) (b := true) rfl rfl rfl (zA hN rfl) rfl rfl (zR (j := 7) (dj := 16) (b := true) rfl rfl rfl (zA hN rfl) rfl rfl (zR (j := 7) (dj := 16) (b := true) rfl rfl rfl (zA hN rfl) rfl rfl (zR (j := 7) (dj := 16) (b := true) rfl rfl rfl (zA hN rfl) rfl rfl (g_undef (j := 11) (dj := 20) (b := false) rfl rfl rfl (zA hN rfl) rfl (g_undef (j := 11) (dj := 20) (b := false) rfl rfl rfl (zA hN rfl) rfl ?_)))))))
 refine g_undef (j := 11) (dj := 20) (b := false) rfl rfl rfl (zA hN rfl) rfl (g_undef (j := 11) (dj := 20) (b := false) rfl rfl rfl (zA hN rfl) rfl (zR (j := 7) (dj := 16) (b := true) rfl rfl rfl (zA hN rfl) rfl rfl (zS (j := 4) (dj := 13) (b := false) rfl rfl rfl (zA hN rfl) (zd (zA hN rfl) rfl (zd (zA hN rfl) (zA hN rfl) (zD (zA hN rfl) (zB (a _ _ (wp_ret (ret1 rfl hd (zA hN rfl) ⟨_, rfl, ?_⟩))))))))))
 exact ⟨hb, congrArg Value.bool (by unfold standB; rw [d, decide_eq_false (fun h => h k)]; rfl)⟩

theorem equalL {l m : List UInt16} {v u : Value} {w : World} (hl : RdC w 0 w.heap.size 1 v l.length (l.map u16v)) (hm : RdC w 0 w.heap.size 1 u m.length (m.map u16v)) : Ret Try.prog 102 #[v, u] w (fun v' w' => Below w.heap.size w w' ∧ v' = .bool (decide (l = m))) := by
 have hlm := rd_len hl
 have hmm := rd_len hm
 have hb := Below.refl w.heap.size w
 refine enter (N := 26) Try.func102 rfl rfl (by simp) fun a hN hd hA => ?_
 have c : a.tmps.getD 0 undef = v := hA 0 (by simp)
 have e : a.tmps.getD 1 undef = u := hA 1 (by simp)
 clear hA
 refine zF fun _ a => zH ?_
 refine zD rfl (zB (a _ _ (zF fun _ a => zF fun _ f => zH (zG (zC hN rfl c) (op_len_rd Try.underlying54 (zA hN rfl) hl (zG (zC hN rfl e) (op_len_rd Try.underlying54 (zA hN rfl) hm (op_neq (zA hN rfl) (zA hN rfl) (fun g => ?_) (fun g => ?_)))))))))
 ·
  refine zB (f _ _ (wp_cond_true (zA hN rfl) (zF fun _ f => zH (zD rfl (zB (f _ _ (wp_ret (zO ( (ret1 rfl hd (zA hN rfl) ⟨_, rfl, ?_⟩))))))))))
  exact ⟨hb, congrArg Value.bool (decide_eq_false (fun h => by rw [h] at g; exact g rfl)).symm⟩
 refine zB (f _ _ (wp_cond_false (zA hN rfl) (wp_skip (a _ _ (zF fun _ a => zF fun _ f => zH (zG (zC hN rfl c) (op_len_rd Try.underlying54 (zA hN rfl) hl (zG rfl (zB (f _ _ (wp_block (loop_m (fun mz_ az_ w' => ∃ (i : Nat), mz_ = l.length - i ∧ (Sl az_ 0 v) ∧ (Sl az_ 1 u) ∧ (Sl az_ 12 (.int .i64 ((l.length : Nat) : Int))) ∧ (Sl az_ 13 (.int .i64 ((i : Nat) : Int))) ∧ (i ≤ l.length) ∧ (l.length = m.length) ∧ (l.take i = m.take i) ∧ (Below w.heap.size w w') ∧ (w.heap.size ≤ w'.heap.size) ∧ (RdC w' 0 w.heap.size 1 v l.length (l.map u16v)) ∧ (RdC w' 0 w.heap.size 1 u m.length (m.map u16v))) _ hN hd ⟨0, rfl, (zL hN rfl c), (zL hN rfl e), (zU hN rfl), (zU hN rfl), (Nat.zero_le _), zx, rfl, hb, (Nat.le_refl _), hl, hm⟩ ?_))))))))))))
 rintro _ q o c e ⟨i, rfl, j, n, k, g, hi, hlen, heq, hb, p, hl, hm⟩
 have := hb.size
 refine zF fun _ f => zH (op_lss (zC c rfl g) (zC c rfl k) (fun o => ?_) (fun o => ?_))
 ·
  refine zB ?_
  refine f _ _ (zF fun _ f => wp_cond_true (zA c rfl) (wp_skip (f _ _ (zF fun _ f => wp_block (zF fun _ o => zH (zG (zC c rfl g) (zD (zA c rfl) (zB (o _ _ (zF fun _ o => reg_still mixed zy ?_))))))))))
  intro q p
  obtain ⟨hb, _⟩ := yE hb p
  have hl := hl.keep0 p
  have hm := hm.keep0 p
  refine st_step rfl (fun _ p => zG (zC c rfl j) p) (st_step rfl (fun _ p => zG (zA c rfl) p) (st_index_rd slt54 (zA c rfl) hl (zA c rfl) zx zx ?_))
  intro r t s x q
  refine st_step rfl (fun _ p => zN (v := (Value.int .u16 ((l.getD i 0).toNat : Int))) one46 (zA c rfl) (by have := q 0 (.int .u16 ((l.getD i 0).toNat : Int)) zz (el_u16 (i := i) zx zx); simpa using this) p) (st_step rfl (fun _ p => zG (zC c rfl n) p) (st_step rfl (fun _ p => zG (zA c rfl) p) (st_index_rd slt54 (zA c rfl) hm (zA c rfl) zx zx ?_)))
  intro s r t x q
  refine st_step rfl (fun _ p => zN (v := (Value.int .u16 ((m.getD i 0).toNat : Int))) one46 (zA c rfl) (by have := q 0 (.int .u16 ((m.getD i 0).toNat : Int)) zz (el_u16 (i := i) zx zx); simpa using this) p) (st_step rfl (fun _ p => op_cmp (b := (decide (((l.getD i 0).toNat : Int) ≠ ((m.getD i 0).toNat : Int)))) (zA c rfl) (zA c rfl) (b_neq rfl) p) (st_nil (o _ _ (wp_cond_split (zA c rfl) (fun r => ?_) (fun r => ?_)))))
  ·
   have r := of_decide_eq_true r
   refine zF fun _ o => zH (zD rfl (zB (o _ _ (wp_ret (zb (zO (zO (zb (zO ( (ret1 rfl e (zA c rfl) ⟨_, rfl, ?_⟩)))))))))))
   exact ⟨hb, congrArg Value.bool (decide_eq_false (fun h => by rw [h] at r; exact r rfl)).symm⟩
  have r := of_decide_eq_false r
  refine wp_skip (f _ _ (zH (op_add (zC c rfl g) rfl (add64 zx) (zG (zA c rfl) (zB ?_)))))
  -- round 10F 14T 24F
  exact zg _ c e ⟨(i + 1), rfl, (zL c rfl j), (zL c rfl n), (zL c rfl k), (zU c rfl).trans (congrArg (Value.int .i64) zx), zx, hlen, (by rw [takeT (d := 0) zx, takeT (d := 0) zx, heq, eq_u16 (Decidable.not_not.1 r)]), hb, zx, hl, hm⟩ zx
 refine zB (f _ _ (zF fun _ f => wp_cond_false (zA c rfl) (wp_exit (then_exit (then_exit (blk_hit (a _ _ (zF fun _ a => zH (zD rfl (zB (a _ _ (wp_ret (ret1 rfl e (zA c rfl) ⟨_, rfl, ?_⟩)))))))))))))
 exact ⟨hb, congrArg Value.bool (decide_eq_true (by rw [List.take_of_length_le zx, List.take_of_length_le zx] at heq; exact heq)).symm⟩

theorem ask2 {x y : List UInt8} {l m : List UInt16} {v u : Value} {w : World} (hl : RdC w 0 w.heap.size 1 v l.length (l.map u16v)) (hm : RdC w 0 w.heap.size 1 u m.length (m.map u16v)) : Ret Try.prog 101 #[(.agg #[(.string (bs x)), v]), (.agg #[(.string (bs y)), u])] w (fun v' w' => Below w.heap.size w w' ∧ v' = .bool (decide (x = y) && decide (l = m))) := by
 have hb := Below.refl w.heap.size w
 refine enter (N := 17) Try.func101 rfl rfl (by simp) fun a hN hd hA => ?_
 have c : a.tmps.getD 0 undef = (.agg #[(.string (bs x)), v]) := hA 0 (by simp)
 have d : a.tmps.getD 1 undef = (.agg #[(.string (bs y)), u]) := hA 1 (by simp)
 clear hA
 refine zF fun _ a => zH (op_box (cs := [(.string (bs x)), v]) (zC hN rfl c) rfl ?_)
 intro f h k g c e
 obtain ⟨hb, _⟩ := yE hb e
 refine op_box (cs := [(.string (bs y)), u]) (zC hN rfl d) rfl ?_
 intro n h g k f d
 obtain ⟨hb, _⟩ := yE hb d
 have hl := (hl.keep0 e).keep0 d
 have hm := (hm.keep0 e).keep0 d
 have c := c.keep0 d
 refine zD rfl (zB (a _ _ (zF fun _ a => zH (zM fld169_0 (zA hN rfl) (zN one9 (zA hN rfl) (c.cell rfl) (zM fld169_0 (zA hN rfl) (zN one9 (zA hN rfl) (f.cell rfl) (op_seql (zA hN rfl) (zA hN rfl) (fun d => ?_) (fun d => ?_)))))))))
 ·
  refine zG (zA hN rfl) (zS (j := 5) (dj := 10) (b := true) rfl rfl rfl (zA hN rfl) (zM fld169_1 (zA hN rfl) (zS (j := 5) (dj := 10) (b := true) rfl rfl rfl (zA hN rfl) (zN one54 (zA hN rfl) (c.cell rfl) ?_))))
  refine zS (j := 5) (dj := 10) (b := true) rfl rfl rfl (zA hN rfl) (zM fld169_1 (zA hN rfl) (zS (j := 5) (dj := 10) (b := true) rfl rfl rfl (zA hN rfl) (zN one54 (zA hN rfl) (f.cell rfl) (zS (j := 5) (dj := 10) (b := true) rfl rfl rfl (zA hN rfl) (zj ok102 (equalL (hl.mono (Nat.zero_le _) zx) (hm.mono (Nat.zero_le _) zx)) ⟨(zA hN rfl), ⟨(zA hN rfl), trivial⟩⟩ ?_)))))
  rintro _ e ⟨c, rfl⟩
  have c := zQ c
  obtain ⟨hb, _⟩ := yE hb c
  have hl := hl.keep0 c
  refine zc (zA hN rfl) (zA hN rfl) (zD (zA hN rfl) (zB (a _ _ (wp_ret (ret1 rfl hd (zA hN rfl) ⟨_, rfl, ?_⟩)))))
  exact ⟨hb, congrArg Value.bool (by rw [decide_eq_true d, Bool.true_and])⟩
 refine zG (zA hN rfl) ?_
 refine zR (j := 5) (dj := 10) (b := true) rfl rfl rfl (zA hN rfl) rfl rfl (zR (j := 5) (dj := 10) (b := true) rfl rfl rfl (zA hN rfl) rfl rfl (zR (j := 5) (dj := 10) (b := true) rfl rfl rfl (zA hN rfl) rfl rfl (zR (j := 5) (dj := 10) (b := true) rfl rfl rfl (zA hN rfl) rfl rfl (zR (j := 5) (dj := 10) (b := true) rfl rfl rfl (zA hN rfl) rfl rfl (zd (zA hN rfl) rfl (zD (zA hN rfl) (zB (a _ _ (wp_ret (ret1 rfl hd (zA hN rfl) ⟨_, rfl, ?_⟩))))))))))
 exact ⟨hb, congrArg Value.bool (by rw [decide_eq_false d, Bool.false_and])⟩

theorem ask3 {x y : List UInt8} {w : World} : Ret Try.prog 104 #[(.string (bs x)), (.string (bs y))] w (fun v' w' => Below w.heap.size w w' ∧ v' = .bool (decide (x = y))) := by
 have hb := Below.refl w.heap.size w
 refine enter (N := 8) Try.func104 rfl rfl (by simp) fun a hN hd hA => ?_
 have b : a.tmps.getD 0 undef = (.string (bs x)) := hA 0 (by simp)
 have c : a.tmps.getD 1 undef = (.string (bs y)) := hA 1 (by simp)
 clear hA
 refine zF fun _ a => zH (zD rfl (zB (a _ _ (zF fun _ a => zH (zG (zC hN rfl b) (zG (zC hN rfl c) (op_seql (zA hN rfl) (zA hN rfl) (fun d => ?_) (fun d => ?_))))))))
 ·
  refine zD (zA hN rfl) (zB (a _ _ (wp_ret (ret1 rfl hd (zA hN rfl) ⟨_, rfl, ?_⟩))))
  exact ⟨hb, congrArg Value.bool (decide_eq_true d).symm⟩
 refine zD (zA hN rfl) (zB (a _ _ (wp_ret (ret1 rfl hd (zA hN rfl) ⟨_, rfl, ?_⟩))))
 exact ⟨hb, congrArg Value.bool (decide_eq_false d).symm⟩

theorem addS1 {x y : List UInt8} {fb xb : Nat} {w : World} (hf9 : Bx w fb 172 [(.func (.func 104) #[] #[])]) (hb9 : Bx w xb 9 [.string (bs x)]) : Ret Try.prog 128 #[(.string (bs y)), (ptr fb 0), (ptr xb 0)] w (fun v' w' => Below w.heap.size w w' ∧ v' = .bool (decide (x = y))) := by
 have hb := Below.refl w.heap.size w
 refine enter (N := 9) Try.func128 rfl rfl (by simp) fun a hN hd hA => ?_
 have b : a.tmps.getD 0 undef = (.string (bs y)) := hA 0 (by simp)
 have c : a.tmps.getD 1 undef = (ptr fb 0) := hA 1 (by simp)
 have d : a.tmps.getD 2 undef = (ptr xb 0) := hA 2 (by simp)
 clear hA
 refine zF fun _ a => zH (zD rfl (zB (a _ _ (zF fun _ a => zH (zN one172 (zC hN rfl c) (hf9.cell rfl) (zN one9 (zC hN rfl d) (hb9.cell rfl) (zG (zC hN rfl b) (op_fnv (fs := []) (vs := [(.string (bs x)), (.string (bs y))]) (cs := []) (zA hN rfl) ok104 ⟨(zA hN rfl), ⟨(zA hN rfl), trivial⟩⟩ (ask3) ?_))))))))
 rintro _ c ⟨b, rfl⟩
 have b := zQ b
 obtain ⟨hb, _⟩ := yE hb b
 refine zD (zA hN rfl) (zB (a _ _ (wp_ret (ret1 rfl hd (zA hN rfl) ⟨_, rfl, ?_⟩))))
 exact ⟨hb, rfl⟩

theorem addR1 {x : List UInt8} {l : List UInt16} {lv : Value} {r : RD} {fb xb : Nat} {w : World} (hf9 : Bx w fb 170 [(.func (.func 101) #[] #[])]) (hb9 : Bx w xb 169 [.string (bs x), lv]) (hl : RdC w 0 w.heap.size 1 lv l.length (l.map u16v)) (hr : RdC w 0 w.heap.size 1 r.la r.lab.length (r.lab.map u16v)) : Ret Try.prog 127 #[(.agg #[(.string (bs r.tab)), r.la]), (ptr fb 0), (ptr xb 0)] w (fun v' w' => Below w.heap.size w w' ∧ v' = .bool (decide (x = r.tab) && decide (l = r.lab))) := by
 have hb := Below.refl w.heap.size w
 refine enter (N := 9) Try.func127 rfl rfl (by simp) fun a hN hd hA => ?_
 have b : a.tmps.getD 0 undef = (.agg #[(.string (bs r.tab)), r.la]) := hA 0 (by simp)
 have c : a.tmps.getD 1 undef = (ptr fb 0) := hA 1 (by simp)
 have d : a.tmps.getD 2 undef = (ptr xb 0) := hA 2 (by simp)
 clear hA
 refine zF fun _ a => zH (op_box (cs := [(.string (bs r.tab)), r.la]) (zC hN rfl b) rfl ?_)
 intro h g j f e b
 obtain ⟨hb, _⟩ := yE hb b
 have hf9 := hf9.keep0 b
 have hb9 := hb9.keep0 b
 have hl := hl.keep0 b
 have hr := hr.keep0 b
 refine zD rfl (zB (a _ _ (zF fun _ a => zH (zN one170 (zC hN rfl c) (hf9.cell rfl) (zY agg169 rfl (zC hN rfl d) hb9 (zY agg169 rfl (zA hN rfl) e (op_fnv (fs := []) (vs := [(.agg #[(.string (bs x)), lv]), (.agg #[(.string (bs r.tab)), r.la])]) (cs := []) (zA hN rfl) ok101 ⟨(zA hN rfl), ⟨(zA hN rfl), trivial⟩⟩ (ask2 (hl.mono (Nat.zero_le _) zx) (hr.mono (Nat.zero_le _) zx)) ?_)))))))
 rintro _ c ⟨b, rfl⟩
 have b := zQ b
 obtain ⟨hb, _⟩ := yE hb b
 have hl := hl.keep0 b
 refine zD (zA hN rfl) (zB (a _ _ (wp_ret (ret1 rfl hd (zA hN rfl) ⟨_, rfl, ?_⟩))))
 exact ⟨hb, rfl⟩

end Go.Proofs.Ytmhdbphpmgjpcaa

namespace Go.Gx
open Go.RowKit
section
variable {P : Program} {ol : List Oper} {Q : Exit → Act → World → Prop} {Φ : Nat → Value → World → Prop} {C : Nat → Value → World → Prop} {ch : Chain} {R : World → World → Prop} {a0 : Act} {N : Nat}
end
section
variable {P : Program} {ol : List Oper} {Q : Exit → Act → World → Prop} {Φ : Nat → Value → Prop} {G : World → Prop} {a0 : Act} {N : Nat}
end
end Go.Gx
