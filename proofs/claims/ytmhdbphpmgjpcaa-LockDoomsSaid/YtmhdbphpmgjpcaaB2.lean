/- What labels are, plainly. -/
import Derived.Sort.AssemblyPlain
import Derived.Shelf.SlIterI.Nil
import Derived.Shelf.SortM.Plain
import Derived.Shelf.SortM.SortNone
import Derived.Lib.SlKeysI
import Derived.Test.YtmhdbphpmgjpcaaB1
namespace Go.Proofs.Ytmhdbphpmgjpcaa
open Go.Gx
abbrev Lb := List UInt16
/-- Tags that rise, each once. -/
def Rise (l : Lb) : Prop := l.Pairwise (fun a b => a.toNat < b.toNat)
instance (l : Lb) : Decidable (Rise l) := List.instDecidablePairwise l
def mayL (l : Lb) : Bool := decide (Rise l) && decide (l.length ≤ 8)
theorem rise_nil : Rise [] := List.Pairwise.nil
theorem rise_one {l : Lb} : Rise (l.take 1) := by
  cases l with
  | nil => exact List.Pairwise.nil
  | cons a l => simp [Rise]
theorem rise_at {l : Lb} {i j : Nat} (h : Rise l) (hij : i < j) (hj : j < l.length) : (l.getD i 0).toNat < (l.getD j 0).toNat := by
  have := List.pairwise_iff_getElem.1 h i j (by omega) hj hij
  simpa [List.getD_eq_getElem?_getD, show i < l.length by omega, hj] using this
theorem rise_step {l : Lb} {i : Nat} (hi : 0 < i) (hl : i < l.length) (h : Rise (l.take i)) (hlt : (l.getD (i - 1) 0).toNat < (l.getD i 0).toNat) : Rise (l.take (i + 1)) := by
  rw [snoc (d := 0) hl]
  refine List.pairwise_append.2 ⟨h, by simp, fun a ha b hb => ?_⟩
  simp at hb; subst hb
  obtain ⟨j, hj, rfl⟩ := List.getElem_of_mem ha
  have hj' : j < i := by simp at hj; omega
  rw [List.getElem_take]
  have e : l[j]'(by omega) = l.getD j 0 := by simp [List.getD_eq_getElem?_getD, show j < l.length by omega]
  have e2 : l[i]?.getD 0 = l.getD i 0 := by simp [List.getD_eq_getElem?_getD]
  rw [e]
  try rw [e2]
  rcases Nat.lt_or_ge j (i - 1) with h1 | h1
  · have h2 := rise_at (i := j) (j := i - 1) h h1 (by simp; omega)
    have e3 : (l.take i).getD j 0 = l.getD j 0 := by simp [List.getD_eq_getElem?_getD, List.getElem?_take, hj']
    have e4 : (l.take i).getD (i - 1) 0 = l.getD (i - 1) 0 := by simp [List.getD_eq_getElem?_getD, List.getElem?_take, show i - 1 < i by omega]
    rw [e3, e4] at h2
    omega
  · have : j = i - 1 := by omega
    subst this; exact hlt
theorem rise_bad {l : Lb} {i : Nat} (hi : 0 < i) (hl : i < l.length) (h : ¬ (l.getD (i - 1) 0).toNat < (l.getD i 0).toNat) : ¬ Rise l := fun hr => h (rise_at hr (by omega) hl)
theorem mayL_rise {l : Lb} (h : mayL l = true) : Rise l := by unfold mayL at h; simp only [Bool.and_eq_true, decide_eq_true_eq] at h; exact h.1
theorem mayL_len {l : Lb} (h : mayL l = true) : l.length ≤ 8 := by unfold mayL at h; simp only [Bool.and_eq_true, decide_eq_true_eq] at h; exact h.2
/-- How labels stand: fewer tags first. -/
def cmpG : Lb → Lb → Int
  | [], [] => 0
  | [], _ :: _ => -1
  | _ :: _, [] => 1
  | a :: l, b :: m => if a.toNat < b.toNat then -1 else if b.toNat < a.toNat then 1 else cmpG l m
def cmpL (a b : Lb) : Int := if a.length < b.length then -1 else if b.length < a.length then 1 else cmpG a b
theorem cmpG_step {a b : Lb} {i : Nat} (ha : i < a.length) (hb : i < b.length) : cmpG (a.drop i) (b.drop i) = if (a.getD i 0).toNat < (b.getD i 0).toNat then -1 else if (b.getD i 0).toNat < (a.getD i 0).toNat then 1 else cmpG (a.drop (i + 1)) (b.drop (i + 1)) := by
  rw [List.drop_eq_getElem_cons ha, List.drop_eq_getElem_cons hb]
  simp [cmpG, List.getD_eq_getElem?_getD, ha, hb]
theorem cmpG_end {a b : Lb} {i : Nat} (ha : a.length ≤ i) (hb : b.length ≤ i) : cmpG (a.drop i) (b.drop i) = 0 := by
  rw [List.drop_of_length_le ha, List.drop_of_length_le hb]; rfl
theorem cmpG_refl : ∀ (a : Lb), cmpG a a = 0
  | [] => rfl
  | a :: l => by simp [cmpG, cmpG_refl l]
theorem cmpG_eq : ∀ {a b : Lb}, cmpG a b = 0 → a = b
  | [], [], _ => rfl
  | [], _ :: _, h => by simp [cmpG] at h
  | _ :: _, [], h => by simp [cmpG] at h
  | a :: l, b :: m, h => by
    unfold cmpG at h
    split at h
    · simp at h
    · split at h
      · simp at h
      · have : a = b := UInt16.toNat_inj.1 (by omega)
        rw [this, cmpG_eq h]
theorem cmpL_zero {a b : Lb} : cmpL a b = 0 ↔ a = b := by
  constructor
  · intro h
    unfold cmpL at h
    split at h
    · simp at h
    · split at h
      · simp at h
      · exact cmpG_eq h
  · rintro rfl; simp [cmpL, cmpG_refl]
end Go.Proofs.Ytmhdbphpmgjpcaa

/- The sort, plainly: what stands in the library's plain layer, at tags; and the laws of its loop. -/
namespace Go.Proofs.Ytmhdbphpmgjpcaa
open Go.Gx Go.Sort Go.RowKit
abbrev Ar := Array UInt16
def ltT (x y : UInt16) : Bool := decide (x.toNat < y.toNat)
theorem swoT : SWO ltT where
  irrefl := fun x => by simp [ltT]
  trans := fun x y z h1 h2 => by simp [ltT] at *; omega
  ntrans := fun x y z h1 h2 => by simp [ltT] at *; omega
/-! how many bits a number has -/
/-! the loops of the sort -/
abbrev PI (a b : Nat) (d d' : Ar) : Prop := PermIn a b d d'
theorem PI.sz {a b : Nat} {d d' : Ar} (h : PI a b d d') : d'.size = d.size := h.1
theorem PI.tr {a b : Nat} {d d' d'' : Ar} (h : PI a b d d') (h' : PI a b d' d'') : PI a b d d'' := permIn_trans d d' d'' a b h h'
theorem PI.mono {a b a' b' : Nat} {d d' : Ar} (h : PI a b d d') (ha : a' ≤ a) (hb : b ≤ b') (hs : b' ≤ d.size) : PI a' b' d d' := permIn_mono d d' a b a' b' ha hb hs h
theorem PI.all {a b : Nat} {d d' : Ar} (h : PI a b d d') (hb : b ≤ d.size) (p : UInt16 → Prop) (hp : ∀ i, a ≤ i → i < b → p d[i]!) : ∀ i, a ≤ i → i < b → p d'[i]! := permIn_all d d' a b p hb h hp
theorem PI.swp {a b i j : Nat} {d : Ar} (h1 : a ≤ i) (h2 : i < b) (h3 : a ≤ j) (h4 : j < b) (hb : b ≤ d.size) : PI a b d (swp d i j) := swp_permIn d a b i j h1 h2 h3 h4 hb
theorem PI.below {a b : Nat} {d d' : Ar} (h : PI a b d d') (hb : b ≤ d.size) (hB : Go.Sort.Below ltT a b d) : Go.Sort.Below ltT a b d' := by
  rcases hB with hB | hB
  · exact .inl hB
  · by_cases ha : a = 0
    · exact .inl ha
    · refine .inr fun i h1 h2 => ?_
      have e : d'[a - 1]! = d[a - 1]! := h.2.1 (a - 1) (.inl (by omega))
      rw [e]
      exact h.all hb (fun x => ltT x d[a - 1]! = false) hB i h1 h2
/-- What is left to do, from places x to y, so that places a to b stand in order. -/
def Left (a b x y : Nat) (d : Ar) : Prop := ∀ d', PI x y d d' → SortedIn ltT x y d' → SortedIn ltT a b d'
theorem Left.perm {a b x y : Nat} {d d1 : Ar} (h : Left a b x y d) (hp : PI x y d d1) : Left a b x y d1 := fun d' h1 h2 => h d' (hp.tr h1) h2
/-- The left part is of equal ones, none greater than any behind. -/
theorem Left.equal {a b x y m : Nat} {d d1 : Ar} {pv : UInt16} (h : Left a b x y d) (hp : PI x y d d1) (hxm : x ≤ m) (hmy : m ≤ y) (hy : y ≤ d.size)
    (h1 : ∀ i, x ≤ i → i < m → ltT pv d1[i]! = false) (h1' : ∀ i, x ≤ i → i < y → ltT d1[i]! pv = false) (h2 : ∀ i, m ≤ i → i < y → ltT pv d1[i]! = true) : Left a b m y d1 := by
  intro d' hp' hs
  refine h d' (hp.tr (hp'.mono hxm (Nat.le_refl _) (by rw [hp.sz]; exact hy))) fun i j hi hij hj => ?_
  have hb1 : y ≤ d1.size := by rw [hp.sz]; exact hy
  by_cases him : m ≤ i
  · exact hs i j him hij hj
  · have ei : d'[i]! = d1[i]! := hp'.2.1 i (.inl (by omega))
    rw [ei]
    have g1 := h1 i hi (by omega)
    have g1' := h1' i hi (by omega)
    by_cases hjm : m ≤ j
    · have g2 := hp'.all hb1 (fun z => ltT pv z = true) h2 j hjm hj
      simp [ltT] at *; omega
    · have ej : d'[j]! = d1[j]! := hp'.2.1 j (.inl (by omega))
      rw [ej]
      have g2 := h1 j (by omega) (by omega)
      have g2' := h1' j (by omega) hj
      simp [ltT] at *; omega
/-- One part is put in order, the other one is left: behind the partition at m. -/
theorem Left.right {a b x y m : Nat} {d d1 d2 : Ar} (h : Left a b x y d) (hp : PI x y d d1) (hxm : x ≤ m) (hmy : m < y) (hy : y ≤ d.size)
    (h1 : ∀ i, x ≤ i → i < m → ltT d1[i]! d1[m]! = true) (h2 : ∀ i, m < i → i < y → ltT d1[i]! d1[m]! = false) (hq : PI x m d1 d2) (hs : SortedIn ltT x m d2) : Left a b (m + 1) y d2 := by
  intro d' hp' hs'
  have hb1 : y ≤ d1.size := by rw [hp.sz]; exact hy
  have hb2 : y ≤ d2.size := by rw [hq.sz]; exact hb1
  have hq' := hq.mono (a' := x) (b' := y) (Nat.le_refl _) (by omega) hb1
  have e0 : d2[m]! = d1[m]! := hq.2.1 m (.inr (Nat.le_refl _))
  have e1 : d'[m]! = d1[m]! := (hp'.2.1 m (.inl (by omega))).trans e0
  have l1 : ∀ i, x ≤ i → i < m → ltT d'[i]! d1[m]! = true := fun i hi him => by
    have e : d'[i]! = d2[i]! := hp'.2.1 i (.inl (by omega))
    rw [e]; exact hq.all (by omega) (fun z => ltT z d1[m]! = true) h1 i hi him
  have l2 : ∀ i, m + 1 ≤ i → i < y → ltT d'[i]! d1[m]! = false := fun i hi hiy =>
    hp'.all hb2 (fun z => ltT z d1[m]! = false) (fun k hk hky => by
      have e : d2[k]! = d1[k]! := hq.2.1 k (.inr (by omega))
      rw [e]; exact h2 k (by omega) hky) i hi hiy
  refine h d' (hp.tr (hq'.tr (hp'.mono (by omega) (Nat.le_refl _) hb2))) fun i j hi hij hj => ?_
  rcases Nat.lt_trichotomy i m with him | him | him
  · rcases Nat.lt_trichotomy j m with hjm | hjm | hjm
    · have ei : d'[i]! = d2[i]! := hp'.2.1 i (.inl (by omega))
      have ej : d'[j]! = d2[j]! := hp'.2.1 j (.inl (by omega))
      rw [ei, ej]; exact hs i j hi hij hjm
    · subst hjm; rw [e1]; have := l1 i hi him; simp [ltT] at *; omega
    · have g1 := l1 i hi him; have g2 := l2 j (by omega) hj; simp [ltT] at *; omega
  · subst him; rw [e1]; exact l2 j (by omega) hj
  · exact hs' i j (by omega) hij hj
theorem Left.left {a b x y m : Nat} {d d1 d2 : Ar} (h : Left a b x y d) (hp : PI x y d d1) (hxm : x ≤ m) (hmy : m < y) (hy : y ≤ d.size)
    (h1 : ∀ i, x ≤ i → i < m → ltT d1[i]! d1[m]! = true) (h2 : ∀ i, m < i → i < y → ltT d1[i]! d1[m]! = false) (hq : PI (m + 1) y d1 d2) (hs : SortedIn ltT (m + 1) y d2) : Left a b x m d2 := by
  intro d' hp' hs'
  have hb1 : y ≤ d1.size := by rw [hp.sz]; exact hy
  have hb2 : y ≤ d2.size := by rw [hq.sz]; exact hb1
  have hq' := hq.mono (a' := x) (b' := y) (by omega) (Nat.le_refl _) hb1
  have e0 : d2[m]! = d1[m]! := hq.2.1 m (.inl (by omega))
  have e1 : d'[m]! = d1[m]! := (hp'.2.1 m (.inr (Nat.le_refl _))).trans e0
  have l1 : ∀ i, x ≤ i → i < m → ltT d'[i]! d1[m]! = true := fun i hi him =>
    hp'.all (by omega) (fun z => ltT z d1[m]! = true) (fun k hk hkm => by
      have e : d2[k]! = d1[k]! := hq.2.1 k (.inl (by omega))
      rw [e]; exact h1 k hk hkm) i hi him
  have l2 : ∀ i, m + 1 ≤ i → i < y → ltT d'[i]! d1[m]! = false := fun i hi hiy => by
    have e : d'[i]! = d2[i]! := hp'.2.1 i (.inr (by omega))
    rw [e]; exact hq.all hb1 (fun z => ltT z d1[m]! = false) (fun k hk hky => h2 k (by omega) hky) i hi hiy
  refine h d' (hp.tr (hq'.tr (hp'.mono (Nat.le_refl _) (by omega) hb2))) fun i j hi hij hj => ?_
  rcases Nat.lt_trichotomy i m with him | him | him
  · rcases Nat.lt_trichotomy j m with hjm | hjm | hjm
    · exact hs' i j hi hij hjm
    · subst hjm; rw [e1]; have := l1 i hi him; simp [ltT] at *; omega
    · have g1 := l1 i hi him; have g2 := l2 j (by omega) hj; simp [ltT] at *; omega
  · subst him; rw [e1]; exact l2 j (by omega) hj
  · have ei : d'[i]! = d2[i]! := hp'.2.1 i (.inr (by omega))
    have ej : d'[j]! = d2[j]! := hp'.2.1 j (.inr (by omega))
    rw [ei, ej]; exact hs i j (by omega) hij hj
end Go.Proofs.Ytmhdbphpmgjpcaa

/- What the sort keeps from round to round. -/
namespace Go.Proofs.Ytmhdbphpmgjpcaa
open Go.Gx Go.Sort Go.RowKit
def Inv (a b x y : Nat) (d0 d : Ar) : Prop := a ≤ x ∧ x ≤ y ∧ y ≤ b ∧ b ≤ d0.size ∧ PI a b d0 d ∧ Go.Sort.Below ltT x y d ∧ Left a b x y d
theorem Inv.sz {a b x y : Nat} {d0 d : Ar} (h : Inv a b x y d0 d) : d.size = d0.size := h.2.2.2.2.1.sz
theorem Inv.hi {a b x y : Nat} {d0 d : Ar} (h : Inv a b x y d0 d) : y ≤ d.size := by have := h.sz; have := h.2.2.1; have := h.2.2.2.1; omega
theorem Inv.below {a b x y : Nat} {d0 d : Ar} (h : Inv a b x y d0 d) : Go.Sort.Below ltT x y d := h.2.2.2.2.2.1
theorem Inv.perm {a b x y : Nat} {d0 d d1 : Ar} (h : Inv a b x y d0 d) (hp : PI x y d d1) : Inv a b x y d0 d1 := by
  have hi := h.hi; have hs := h.sz
  obtain ⟨h1, h2, h3, h4, h5, h6, h7⟩ := h
  exact ⟨h1, h2, h3, h4, h5.tr (hp.mono h1 h3 (by omega)), hp.below hi h6, h7.perm hp⟩
theorem Inv.done {a b x y : Nat} {d0 d d1 : Ar} (h : Inv a b x y d0 d) (hp : PI x y d d1) (hs : SortedIn ltT x y d1) : PI a b d0 d1 ∧ SortedIn ltT a b d1 :=
  ⟨(h.perm hp).2.2.2.2.1, h.2.2.2.2.2.2 d1 hp hs⟩
theorem Inv.equal {a b x y pv : Nat} {d0 d : Ar} (h : Inv a b x y d0 d) (hx : x ≤ pv) (hy : pv < y) (h0 : 0 < x) (hl : ltT d[x - 1]! d[pv]! = false) :
    x < (partitionEqual ltT d x y pv).1 ∧ Inv a b (partitionEqual ltT d x y pv).1 y d0 (partitionEqual ltT d x y pv).2 := by
  have hi := h.hi; have hs := h.sz
  obtain ⟨h1, h2, h3, h4, h5, h6, h7⟩ := h
  have hall : ∀ i, x ≤ i → i < y → ltT d[i]! d[pv]! = false := fun i hi1 hi2 => by
    have g := (h6.resolve_left (by omega)) i hi1 hi2
    simp [ltT] at *; omega
  obtain ⟨g1, g2, g3, g4, g5⟩ := partitionEqual_holds ltT swoT d x y pv hx hy hi hall
  have g3 : PI x y d (partitionEqual ltT d x y pv).2 := g3
  have hall' := PI.all g3 hi (fun z => ltT z d[pv]! = false) hall
  generalize partitionEqual ltT d x y pv = q at *
  refine ⟨g1, by omega, g2, h3, h4, h5.tr (g3.mono h1 h3 (by omega)), .inr fun i hi1 hi2 => ?_, Left.equal h7 g3 (by omega) g2 hi g4 hall' g5⟩
  have k1 := g5 i hi1 hi2; have k2 := g4 (q.1 - 1) (by omega) (by omega)
  simp [ltT] at *; omega
theorem Inv.part {a b x y pv : Nat} {d0 d : Ar} (h : Inv a b x y d0 d) (hx : x ≤ pv) (hy : pv < y) :
    x ≤ (partition ltT d x y pv).1 ∧ (partition ltT d x y pv).1 < y ∧ (partition ltT d x y pv).2.2.size = d.size ∧ Go.Sort.Below ltT x (partition ltT d x y pv).1 (partition ltT d x y pv).2.2 ∧ Go.Sort.Below ltT ((partition ltT d x y pv).1 + 1) y (partition ltT d x y pv).2.2 ∧
    (∀ d2, PI x (partition ltT d x y pv).1 (partition ltT d x y pv).2.2 d2 → SortedIn ltT x (partition ltT d x y pv).1 d2 → Inv a b ((partition ltT d x y pv).1 + 1) y d0 d2) ∧
    (∀ d2, PI ((partition ltT d x y pv).1 + 1) y (partition ltT d x y pv).2.2 d2 → SortedIn ltT ((partition ltT d x y pv).1 + 1) y d2 → Inv a b x (partition ltT d x y pv).1 d0 d2) := by
  have hi := h.hi; have hs := h.sz
  obtain ⟨g1, g2, g3, g4, g5⟩ := partition_holds ltT swoT d x y pv hx hy hi
  have g3 : PI x y d (partition ltT d x y pv).2.2 := g3
  have hp := h.perm g3
  obtain ⟨h1, h2, h3, h4, h5, h6, h7⟩ := h
  generalize partition ltT d x y pv = q at *
  have hsq := g3.sz
  refine ⟨g1, g2, hsq, ?_, ?_, ?_, ?_⟩
  · rcases hp.below with hB | hB
    · exact .inl hB
    · exact .inr fun i hi1 hi2 => hB i hi1 (by omega)
  · exact .inr fun i hi1 hi2 => by rw [Nat.add_sub_cancel]; exact g5 i (by omega) hi2
  · intro d2 hq hso
    refine ⟨by omega, by omega, h3, h4, hp.2.2.2.2.1.tr (hq.mono h1 (by omega) (by omega)), ?_, Left.right h7 g3 g1 g2 hi g4 g5 hq hso⟩
    refine .inr fun i hi1 hi2 => ?_
    have e0 : d2[q.1]! = q.2.2[q.1]! := hq.2.1 q.1 (.inr (Nat.le_refl _))
    have e1 : d2[i]! = q.2.2[i]! := hq.2.1 i (.inr (by omega))
    rw [Nat.add_sub_cancel, e0, e1]; exact g5 i (by omega) hi2
  · intro d2 hq hso
    refine ⟨h1, g1, by omega, h4, hp.2.2.2.2.1.tr (hq.mono (by omega) h3 (by omega)), ?_, Left.left h7 g3 g1 g2 hi g4 g5 hq hso⟩
    rcases hp.below with hB | hB
    · exact .inl hB
    · by_cases hx0 : x = 0
      · exact .inl hx0
      · refine .inr fun i hi1 hi2 => ?_
        have e0 : d2[x - 1]! = q.2.2[x - 1]! := hq.2.1 (x - 1) (.inl (by omega))
        have e1 : d2[i]! = q.2.2[i]! := hq.2.1 i (.inl (by omega))
        rw [e0, e1]; exact hB i hi1 (by omega)
theorem Inv.lt {a b x y : Nat} {d0 d : Ar} (h : Inv a b x y d0 d) : PI a b d0 d := h.2.2.2.2.1
theorem Inv.heap {a b x y : Nat} {d0 d : Ar} (h : Inv a b x y d0 d) : PI a b d0 (heapSort ltT d x y) ∧ SortedIn ltT a b (heapSort ltT d x y) :=
  have g := heapSort_holds swoT d x y h.2.1 h.hi
  h.done g.1 g.2
end Go.Proofs.Ytmhdbphpmgjpcaa

/- Lists of tags put in order, plainly: what stands twice goes; the one rising list of what a list holds. -/
namespace Go.Proofs.Ytmhdbphpmgjpcaa
open Go.Gx Go.Sort Go.RowKit
def dd : List UInt16 → List UInt16
  | [] => []
  | [x] => [x]
  | x :: y :: r => if x = y then dd (y :: r) else x :: dd (y :: r)
theorem u16_eq {x y : UInt16} (h : (x.toNat : Int) = (y.toNat : Int)) : x = y := UInt16.toNat_inj.1 (by omega)
end Go.Proofs.Ytmhdbphpmgjpcaa

/- The one rising list of what a list holds. -/
namespace Go.Proofs.Ytmhdbphpmgjpcaa
open Go.Gx Go.Sort Go.RowKit
theorem rise_ext : ∀ {a b : Lb}, Rise a → Rise b → (∀ x, x ∈ a ↔ x ∈ b) → a = b
  | [], [], _, _, _ => rfl
  | [], y :: b, _, _, h => by have := (h y).2 (by simp); simp at this
  | x :: a, [], _, _, h => by have := (h x).1 (by simp); simp at this
  | x :: a, y :: b, ha, hb, h => by
    have ha' := List.pairwise_cons.1 ha
    have hb' := List.pairwise_cons.1 hb
    have e : x = y := by
      rcases List.mem_cons.1 ((h x).1 (by simp)) with q | q
      · exact q
      · rcases List.mem_cons.1 ((h y).2 (by simp)) with q' | q'
        · exact q'.symm
        · have := hb'.1 x q; have := ha'.1 y q'; omega
    subst e
    rw [rise_ext ha'.2 hb'.2 fun z => ?_]
    have hz := h z
    simp only [List.mem_cons] at hz
    constructor
    · intro q
      rcases hz.1 (.inr q) with r | r
      · subst r; have := ha'.1 z q; omega
      · exact r
    · intro q
      rcases hz.2 (.inr q) with r | r
      · subst r; have := hb'.1 z q; omega
      · exact r
def insT (x : UInt16) : Lb → Lb
  | [] => [x]
  | y :: r => if y.toNat < x.toNat then y :: insT x r else if y = x then y :: r else x :: y :: r
theorem insT_mem (x z : UInt16) : ∀ (l : Lb), z ∈ insT x l ↔ z = x ∨ z ∈ l
  | [] => by simp [insT]
  | y :: r => by
    rw [insT]
    split
    · rw [List.mem_cons, insT_mem x z r, List.mem_cons]; constructor <;> rintro (h | h | h) <;> simp [h]
    · split
      · rename_i h; subst h; simp
      · simp
theorem insT_rise {x : UInt16} : ∀ {l : Lb}, Rise l → Rise (insT x l)
  | [], _ => List.pairwise_singleton _ _
  | y :: r, h => by
    have h' := List.pairwise_cons.1 h
    rw [insT]
    split
    · refine List.pairwise_cons.2 ⟨fun z hz => ?_, insT_rise h'.2⟩
      rcases (insT_mem x z r).1 hz with rfl | hz
      · assumption
      · exact h'.1 z hz
    · split
      · exact h
      · rename_i h1 h2
        have hne : y.toNat ≠ x.toNat := fun q => h2 (UInt16.toNat_inj.1 q)
        refine List.pairwise_cons.2 ⟨fun z hz => ?_, h⟩
        rcases List.mem_cons.1 hz with rfl | hz
        · omega
        · have := h'.1 z hz; omega
def nrm (l : Lb) : Lb := l.foldl (fun acc x => insT x acc) []
theorem nrm_go : ∀ (l acc : Lb), Rise acc → Rise (l.foldl (fun acc x => insT x acc) acc) ∧ ∀ z, z ∈ l.foldl (fun acc x => insT x acc) acc ↔ z ∈ acc ∨ z ∈ l
  | [], acc, h => ⟨h, fun z => by simp⟩
  | x :: l, acc, h => by
    obtain ⟨h1, h2⟩ := nrm_go l (insT x acc) (insT_rise h)
    refine ⟨h1, fun z => ?_⟩
    rw [List.foldl_cons, h2, insT_mem, List.mem_cons]
    constructor
    · rintro ((h | h) | h) <;> simp [h]
    · rintro (h | h | h) <;> simp [h]
theorem nrm_rise (l : Lb) : Rise (nrm l) := (nrm_go l [] rise_nil).1
theorem nrm_mem (l : Lb) (z : UInt16) : z ∈ nrm l ↔ z ∈ l := by have := (nrm_go l [] rise_nil).2 z; simpa [nrm] using this
theorem take_nrm {l : Lb} {i : Nat} (h : i < l.length) : nrm (l.take (i + 1)) = insT (l.getD i 0) (nrm (l.take i)) := by
  have e : l.take (i + 1) = l.take i ++ [l.getD i 0] := by
    rw [List.take_add_one, List.getElem?_eq_getElem h]; simp [h]
  rw [e, nrm, List.foldl_append]; rfl
end Go.Proofs.Ytmhdbphpmgjpcaa

/- Labels taken apart and put together, plainly. -/
namespace Go.Proofs.Ytmhdbphpmgjpcaa
open Go.Gx Go.RowKit
def inL (x : UInt16) (m : Lb) : Bool := decide (x ∈ m)
def ninL (x : UInt16) (m : Lb) : Bool := !inL x m
def minusL (l m : Lb) : Lb := l.filter (fun x => ninL x m)
def flowsL (l m : Lb) : Bool := l.all (fun x => inL x m)
theorem in_t {x : UInt16} {m : Lb} {i : Nat} (h : i < m.length) (e : (m.getD i 0) = x) : inL x m = true := by
  subst e; unfold inL; simp [h]
theorem in_f {x : UInt16} {m : Lb} {i : Nat} (hi : m.length ≤ i) (h : ∀ j, j < i → m.getD j 0 ≠ x) : inL x m = false := by
  unfold inL
  rw [decide_eq_false_iff_not]
  intro hm
  obtain ⟨j, hj, e⟩ := List.getElem_of_mem hm
  exact h j (by omega) (by simp [hj, e])
theorem no_step {x : UInt16} {m : Lb} {i : Nat} (h : ∀ j, j < i → m.getD j 0 ≠ x) (e : ¬ m.getD i 0 = x) : ∀ j, j < i + 1 → m.getD j 0 ≠ x := fun j hj => by
  by_cases q : j = i
  · subst q; exact e
  · exact h j (by omega)
theorem lb_take {l : Lb} {i : Nat} (h : i < l.length) : l.take (i + 1) = l.take i ++ [l.getD i 0] := by
  rw [List.take_add_one, List.getElem?_eq_getElem h]; simp [h]
theorem filter_t {l : Lb} {i : Nat} {p : UInt16 → Bool} (h : i < l.length) (hp : p (l.getD i 0) = true) : (l.take (i + 1)).filter p = (l.take i).filter p ++ [l.getD i 0] := by
  rw [lb_take h, List.filter_append, List.filter_cons, if_pos hp]; rfl
theorem filter_f {l : Lb} {i : Nat} {p : UInt16 → Bool} (h : i < l.length) (hp : p (l.getD i 0) = false) : (l.take (i + 1)).filter p = (l.take i).filter p := by
  rw [lb_take h, List.filter_append, List.filter_cons, if_neg (by rw [hp]; decide), List.filter_nil, List.append_nil]
theorem filter_le {l : Lb} {i : Nat} {p : UInt16 → Bool} : ((l.take i).filter p).length ≤ i := Nat.le_trans (List.length_filter_le _ _) (by simp; omega)
theorem all_f {l : Lb} {i : Nat} {p : UInt16 → Bool} (h : i < l.length) (hp : p (l.getD i 0) = false) : l.all p = false := by
  rw [List.all_eq_false]
  exact ⟨l.getD i 0, by simp [h], by simpa using hp⟩
theorem all_step {l : Lb} {i : Nat} {p : UInt16 → Bool} (h : i < l.length) (ha : (l.take i).all p = true) (hp : p (l.getD i 0) = true) : (l.take (i + 1)).all p = true := by
  rw [lb_take h, List.all_append, ha]; simp only [List.all_cons, List.all_nil, hp]; rfl
theorem all_end {l : Lb} {i : Nat} {p : UInt16 → Bool} (h : l.length ≤ i) (ha : (l.take i).all p = true) : l.all p = true := by
  rwa [List.take_of_length_le h] at ha
theorem flows_minus (l m : Lb) : flowsL l m = decide ((minusL l m).length = 0) := by
  unfold flowsL minusL ninL
  rw [Bool.eq_iff_iff, decide_eq_true_iff, List.length_eq_zero_iff, List.filter_eq_nil_iff]
  simp
theorem take_all (l : Lb) {i : Nat} (h : l.length ≤ i) : l.take i = l := List.take_of_length_le h
theorem insT_at {x : UInt16} : ∀ {acc : Lb} {j : Nat}, (∀ k, k < j → (acc.getD k 0).toNat < x.toNat) → j ≤ acc.length → (j = acc.length ∨ ¬ (acc.getD j 0).toNat < x.toNat) →
    ((¬ j = acc.length ∧ acc.getD j 0 = x → insT x acc = acc) ∧ (j = acc.length ∨ acc.getD j 0 ≠ x → insT x acc = acc.take j ++ [x] ++ acc.drop j))
  | [], j, _, h2, _ => by
    have : j = 0 := by simpa using h2
    subst this
    exact ⟨fun h => absurd rfl h.1, fun _ => rfl⟩
  | y :: r, 0, _, _, h3 => by
    have hy : ¬ y.toNat < x.toNat := by simpa using h3
    refine ⟨fun h => ?_, fun h => ?_⟩
    · have e : y = x := by simpa using h.2
      rw [insT, if_neg hy, if_pos e]
    · have e : ¬ y = x := by simpa using h
      rw [insT, if_neg hy, if_neg e]; rfl
  | y :: r, j + 1, h1, h2, h3 => by
    have hy : y.toNat < x.toNat := by simpa using h1 0 (by omega)
    obtain ⟨g1, g2⟩ := insT_at (acc := r) (j := j) (fun k hk => by simpa using h1 (k + 1) (by omega)) (by simpa using h2) (by simpa using h3)
    refine ⟨fun h => ?_, fun h => ?_⟩
    · rw [insT, if_pos hy, g1 (by simpa using h)]
    · rw [insT, if_pos hy, g2 (by simpa using h)]; simp
theorem lt_step {x : UInt16} {acc : Lb} {j : Nat} (h : ∀ k, k < j → (acc.getD k 0).toNat < x.toNat) (e : (acc.getD j 0).toNat < x.toNat) : ∀ k, k < j + 1 → (acc.getD k 0).toNat < x.toNat := fun k hk => by
  by_cases q : k = j
  · subst q; exact e
  · exact h k (by omega)
theorem insT_len {x : UInt16} : ∀ {acc : Lb}, (insT x acc).length ≤ acc.length + 1
  | [] => by simp [insT]
  | y :: r => by
    have := insT_len (x := x) (acc := r)
    rw [insT]; split
    · simp; omega
    · split <;> simp
theorem nrm_len {l : Lb} {i : Nat} (h : i ≤ l.length) : (nrm (l.take i)).length ≤ i := by
  induction i with
  | zero => simp [nrm]
  | succ i ih => rw [take_nrm (by omega)]; have := insT_len (x := l.getD i 0) (acc := nrm (l.take i)); have := ih (by omega); omega
end Go.Proofs.Ytmhdbphpmgjpcaa

/- How lists of tags stand, plainly; labels made together. -/
namespace Go.Proofs.Ytmhdbphpmgjpcaa
open Go.Gx Go.RowKit
theorem cmpG_gt {a b : Lb} {i : Nat} (ha : i < a.length) (hb : b.length ≤ i) : cmpG (a.drop i) (b.drop i) = 1 := by
  rw [List.drop_eq_getElem_cons ha, List.drop_of_length_le hb]; rfl
theorem cmpG_lt {a b : Lb} {i : Nat} (ha : a.length ≤ i) (hb : i < b.length) : cmpG (a.drop i) (b.drop i) = -1 := by
  rw [List.drop_eq_getElem_cons hb, List.drop_of_length_le ha]; rfl
theorem cmpL_or {a b : Lb} : (if cmpI (a.length : Int) (b.length : Int) = 0 then cmpG a b else cmpI (a.length : Int) (b.length : Int)) = cmpL a b := by
  unfold cmpI cmpL; (repeat' split) <;> omega
def joinL (a b : Lb) : Lb := nrm (a ++ b)
end Go.Proofs.Ytmhdbphpmgjpcaa

/- Sessions as objects: a box, a list of sessions with labels and posts of their own, a map of stamps. -/
namespace Go.Gx
/-- A session, plainly. -/
structure KS where
  label : List UInt16
  owns : List UInt16
  texts : List (List UInt8)
instance : Inhabited KS := ⟨⟨[], [], []⟩⟩
/-- Where a session's parts lie. -/
structure KC where
  lab : Value
  own : Value
  p : Nat
  F : Nat → Prop
instance : Inhabited KC := ⟨⟨.slice none 0 0, .slice none 0 0, 0, fun _ => False⟩⟩
def cellsK (c : KC) : List Value := [c.lab, c.own, ptr c.p 0]
abbrev PostS := PostR sv 126 9
def SessR (w : World) (base : Nat) (s : KS) (c : KC) : Prop :=
  Own w base 46 1 c.lab s.label.length (s.label.map u16v) ∧ Own w base 46 1 c.own s.owns.length (s.owns.map u16v) ∧ PostS w base c.p 16 s.texts c.F
def PartK (c : KC) (x : Nat) : Prop := Bl c.lab x ∨ Bl c.own x ∨ c.F x
/-- Sessions: box k, its list, its map of stamps M; F: all its blocks. -/
def KernR (w : World) (base k : Nat) (S : List KS) (M : List (List UInt8 × Int)) (F : Nat → Prop) : Prop :=
  ∃ (lv : Value) (m : Nat) (C : List KC), base ≤ k ∧ base ≤ m ∧ C.length = S.length ∧ Bx w k 134 [lv, .map (some m)] ∧ Own w base 137 3 lv S.length (C.flatMap cellsK) ∧ MapC sv (Value.int .u64) w m M ∧
    (∀ i, i < S.length → SessR w base (S.getD i default) (C.getD i default)) ∧ (∀ i j, i < S.length → j < S.length → i ≠ j → Dj (C.getD i default).F (C.getD j default).F) ∧
    (∀ x, F x ↔ x = k ∨ x = m ∨ Bl lv x ∨ ∃ i, i < S.length ∧ PartK (C.getD i default) x)
section
variable {w w' : World} {base k m b t e sz n p cap : Nat} {S : List KS} {M : List (List UInt8 × Int)} {F G : Nat → Prop} {cs : List Value} {v lv : Value} {L : List (List UInt8)}
/-! a post's blocks are none of another kind -/
theorem PostR.notBx {α : Type} {f : α → Value} {tp ep : Nat} {L : List α} (h : PostR f tp ep w base p cap L F) (B : Bx w b t cs) (h1 : t ≠ tp) (h2 : t ≠ ep) : ¬ F b := by
  obtain ⟨c, hv, H, B', _, _, _, _, _, _, hx, O, C, hF⟩ := h
  intro hf
  rcases (hF b).1 hf with rfl | rfl | hf
  · have := B.symm.trans hx; simp at this; exact h1 this.2
  · exact B.notCh C rfl
  · exact O.neB B h2 hf
theorem PostR.notOwn {α : Type} {f : α → Value} {tp ep : Nat} {L : List α} {base2 : Nat} (h : PostR f tp ep w base p cap L F) (O2 : Own w base2 e sz v n cs) (h1 : e ≠ tp) (h2 : e ≠ ep) : Dj (Bl v) F := by
  obtain ⟨c, hv, H, B', _, _, _, _, _, _, hx, O, C, hF⟩ := h
  intro x hx2 hf
  rcases (hF x).1 hf with rfl | rfl | hf
  · exact O2.neB hx (fun e => h1 e.symm) hx2
  · exact O2.notCh C hx2
  · rcases O2.2 with ⟨rfl, _⟩ | ⟨g, off, cap, cur, fr, rfl, hb, hg, _⟩
    · cases hx2
    · simp only [Bl, Value.ownBlock, Option.some.injEq] at hx2
      subst hx2
      rcases O.2 with ⟨rfl, _⟩ | ⟨g', off', cap', cur', fr', rfl, hb', hg', _⟩
      · cases hf
      · simp only [Value.ownBlock, Option.some.injEq] at hf
        subst hf
        have := hg.symm.trans hg'; simp at this; exact h2 this.2.1
theorem PostR.notMap {α K V : Type} {f : α → Value} {kv : K → Value} {vv : V → Value} {es : List (K × V)} {tp ep : Nat} {L : List α} (h : PostR f tp ep w base p cap L F) (M : MapC kv vv w m es) : ¬ F m := by
  obtain ⟨c, hv, H, B', _, _, _, _, _, _, hx, O, C, hF⟩ := h
  intro hf
  rcases (hF m).1 hf with rfl | rfl | hf
  · exact hx.notMap M rfl
  · obtain ⟨arr, cl, hm, _⟩ := M; obtain ⟨s, r, hc⟩ := C; rw [hm] at hc; simp at hc
  · exact O.notMap M hf
theorem KernR.lt (h : KernR w base k S M F) : ∀ x, F x → base ≤ x ∧ x < w.heap.size := by
  obtain ⟨lv, m, C, hk, hm, hC, hx, O, hM, hS, hD, hF⟩ := h
  intro x hf
  rcases (hF x).1 hf with rfl | rfl | hf | ⟨i, hi, hf⟩
  · exact ⟨hk, hx.lt⟩
  · exact ⟨hm, hM.lt⟩
  · exact O.lt x hf
  · obtain ⟨h1, h2, h3⟩ := hS i hi
    rcases hf with hf | hf | hf
    · exact h1.lt x hf
    · exact h2.lt x hf
    · exact h3.lt x hf
theorem SessR.keepG {s : KS} {c : KC} (h : SessR w base s c) (E : Gr w w' G) (hd : ∀ x, PartK c x → ¬ G x) : SessR w' base s c :=
  ⟨h.1.keepG E fun x hx => hd x (.inl hx), h.2.1.keepG E fun x hx => hd x (.inr (.inl hx)), h.2.2.keepG E fun x hx => hd x (.inr (.inr hx))⟩
theorem KernR.keepG (h : KernR w base k S M F) (E : Gr w w' G) (hd : Dj F G) : KernR w' base k S M F := by
  obtain ⟨lv, m, C, hk, hm, hC, hx, O, hM, hS, hD, hF⟩ := h
  exact ⟨lv, m, C, hk, hm, hC, hx.keepG E (hd k ((hF k).2 (.inl rfl))), O.keepG E (fun x hx => hd x ((hF x).2 (.inr (.inr (.inl hx))))), hM.keepG E (hd m ((hF m).2 (.inr (.inl rfl)))),
    fun i hi => (hS i hi).keepG E fun x hx => hd x ((hF x).2 (.inr (.inr (.inr ⟨i, hi, hx⟩)))), hD, hF⟩
theorem KernR.mono {base' : Nat} (h : KernR w base k S M F) (hb : base' ≤ base) : KernR w base' k S M F := by
  obtain ⟨lv, m, C, hk, hm, hC, hx, O, hM, hS, hD, hF⟩ := h
  exact ⟨lv, m, C, Nat.le_trans hb hk, Nat.le_trans hb hm, hC, hx, O.mono hb, hM, fun i hi => ⟨(hS i hi).1.mono hb, (hS i hi).2.1.mono hb, (hS i hi).2.2.mono hb⟩, hD, hF⟩
/-! what is there behind a turn of one session's post -/
theorem getD_set {α : Type} {l : List α} {i j : Nat} {x d : α} (hi : i < l.length) : (l.set i x).getD j d = if j = i then x else l.getD j d := by
  by_cases h : j = i
  · subst h; rw [if_pos rfl]; simp [List.getD_eq_getElem?_getD, hi]
  · rw [if_neg h]; simp [List.getD_eq_getElem?_getD, List.getElem?_set_ne (fun e => h e.symm)]
end
/-! elements of so many cells -/
theorem el_flat {α : Type} {f : α → List Value} {sz : Nat} {l : List α} {d : α} {e : Int} {i : Nat} (hp : 0 < sz) (hf : ∀ u ∈ l, (f u).length = sz) (he : e = (i : Int)) (h : i < l.length) : ∀ j u, (f (l.getD i d))[j]? = some u → (l.flatMap f)[e.toNat * sz + j]? = some u := by
  intro j u hu
  subst he
  have hm : l.getD i d ∈ l := getD_mem h
  have hj : j < sz := by have := (List.getElem?_eq_some_iff.1 hu).1; rwa [hf _ hm] at this
  rw [flat_get hp l hf, Int.toNat_natCast, Nat.mul_comm, Nat.mul_add_div hp, Nat.mul_add_mod, Nat.div_eq_of_lt hj, Nat.mod_eq_of_lt hj, Nat.add_zero]
  have : l[i]? = some (l.getD i d) := by simp [List.getD_eq_getElem?_getD, h]
  rw [this]; exact hu
/-! configs: labels and what is owned, as they are told -/
abbrev LBV := Value × List UInt16
def D2 : LBV := (.slice none 0 0, [])
/-! sessions' parts, all together -/
def SessAll (w : World) (base : Nat) (S : List KS) (C : List KC) (F : Nat → Prop) : Prop :=
  C.length = S.length ∧ (∀ i, i < S.length → SessR w base (S.getD i default) (C.getD i default)) ∧ (∀ i j, i < S.length → j < S.length → i ≠ j → Dj (C.getD i default).F (C.getD j default).F) ∧ (∀ x, F x ↔ ∃ i, i < S.length ∧ PartK (C.getD i default) x)
section
variable {w w' : World} {base k m : Nat} {S : List KS} {C : List KC} {M : List (List UInt8 × Int)} {F G Fp : Nat → Prop} {lv la ow : Value} {l o : List UInt16} {T : List (List UInt8)} {p : Nat}
theorem SessR.part {s : KS} {c : KC} (h : SessR w base s c) : ∀ x, PartK c x → base ≤ x ∧ x < w.heap.size := fun x hx => by
  rcases hx with hx | hx | hx
  · exact h.1.lt x hx
  · exact h.2.1.lt x hx
  · exact h.2.2.lt x hx
theorem SessAll.lt (h : SessAll w base S C F) : ∀ x, F x → base ≤ x ∧ x < w.heap.size := fun x hx => by
  obtain ⟨i, hi, hx⟩ := (h.2.2.2 x).1 hx
  exact (h.2.1 i hi).part x hx
theorem SessAll.keepG (h : SessAll w base S C F) (E : Gr w w' G) (hd : Dj F G) : SessAll w' base S C F :=
  ⟨h.1, fun i hi => (h.2.1 i hi).keepG E fun x hx => hd x ((h.2.2.2 x).2 ⟨i, hi, hx⟩), h.2.2.1, h.2.2.2⟩
theorem SessAll.nil (w : World) (base : Nat) : SessAll w base [] [] NoB := ⟨rfl, fun _ h => absurd h (Nat.not_lt_zero _), fun _ _ h => absurd h (Nat.not_lt_zero _), fun x => ⟨fun h => h.elim, fun ⟨_, h, _⟩ => absurd h (Nat.not_lt_zero _)⟩⟩
theorem getD_snoc_lt {α : Type} {A : List α} {x d : α} {i : Nat} (h : i < A.length) : (A ++ [x]).getD i d = A.getD i d := by simp [List.getD_eq_getElem?_getD, List.getElem?_append_left h]
theorem getD_snoc_eq {α : Type} {A : List α} {x d : α} : (A ++ [x]).getD A.length d = x := by simp [List.getD_eq_getElem?_getD]
theorem SessAll.snoc (h : SessAll w base S C F) (hL : Own w base 46 1 la l.length (l.map u16v)) (hW : Own w base 46 1 ow o.length (o.map u16v)) (hQ : PostS w base p 16 T Fp) (hd : Dj F Fp) :
    SessAll w base (S ++ [⟨l, o, T⟩]) (C ++ [⟨la, ow, p, Fp⟩]) (fun x => F x ∨ Bl la x ∨ Bl ow x ∨ Fp x) := by
  obtain ⟨h1, h2, h3, h4⟩ := h
  have hlast : ∀ {i}, i < (S ++ [(⟨l, o, T⟩ : KS)]).length → ¬ i < S.length → i = S.length := fun {i} a b => by simp at a; omega
  have eC : (C ++ [(⟨la, ow, p, Fp⟩ : KC)]).getD S.length default = ⟨la, ow, p, Fp⟩ := by rw [← h1]; exact getD_snoc_eq
  have hdj : ∀ i, i < S.length → Dj (C.getD i default).F Fp := fun i hi x hx => hd x ((h4 x).2 ⟨i, hi, .inr (.inr hx)⟩)
  refine ⟨by simp [h1], fun i hi => ?_, fun i j hi hj hne => ?_, fun x => ⟨fun hx => ?_, fun hx => ?_⟩⟩
  · by_cases hs : i < S.length
    · rw [getD_snoc_lt hs, getD_snoc_lt (by rw [h1]; exact hs)]; exact h2 i hs
    · obtain rfl := hlast hi hs
      rw [getD_snoc_eq, eC]; exact ⟨hL, hW, hQ⟩
  · by_cases hs : i < S.length <;> by_cases hs2 : j < S.length
    · rw [getD_snoc_lt (by rw [h1]; exact hs), getD_snoc_lt (by rw [h1]; exact hs2)]; exact h3 i j hs hs2 hne
    · obtain rfl := hlast hj hs2
      rw [getD_snoc_lt (by rw [h1]; exact hs), eC]; exact hdj i hs
    · obtain rfl := hlast hi hs
      rw [eC, getD_snoc_lt (by rw [h1]; exact hs2)]; exact (hdj j hs2).symm
    · exact absurd ((hlast hi hs).trans (hlast hj hs2).symm) hne
  · rcases hx with hx | hx
    · obtain ⟨i, hi, hx⟩ := (h4 x).1 hx
      exact ⟨i, by simp; omega, by rw [getD_snoc_lt (by rw [h1]; exact hi)]; exact hx⟩
    · exact ⟨S.length, by simp, by rw [eC]; exact hx⟩
  · obtain ⟨i, hi, hx⟩ := hx
    by_cases hs : i < S.length
    · rw [getD_snoc_lt (by rw [h1]; exact hs)] at hx; exact .inl ((h4 x).2 ⟨i, hs, hx⟩)
    · obtain rfl := hlast hi hs
      rw [eC] at hx; exact .inr hx
theorem Own.notOwn {e sz n base2 e2 sz2 n2 : Nat} {v v2 : Value} {cs cs2 : List Value} (O : Own w base e sz v n cs) (O2 : Own w base2 e2 sz2 v2 n2 cs2) (h : e ≠ e2) : DJ v v2 := by
  intro x hx hf
  rcases O.2 with ⟨rfl, _⟩ | ⟨g, off, cap, cur, fr, rfl, hb, hg, _⟩
  · cases hx
  · simp only [Value.ownBlock, Option.some.injEq] at hx
    subst hx
    rcases O2.2 with ⟨rfl, _⟩ | ⟨g', off', cap', cur', fr', rfl, hb', hg', _⟩
    · cases hf
    · simp only [Value.ownBlock, Option.some.injEq] at hf
      subst hf
      have := hg.symm.trans hg'; simp at this; exact h this.2.1
theorem SessAll.notBx {b t : Nat} {cs : List Value} (h : SessAll w base S C F) (B : Bx w b t cs) (h1 : t ≠ 126) (h2 : t ≠ 9) (h3 : t ≠ 46) : ¬ F b := fun hf => by
  obtain ⟨i, hi, hf⟩ := (h.2.2.2 b).1 hf
  obtain ⟨a1, a2, a3⟩ := h.2.1 i hi
  rcases hf with hf | hf | hf
  · exact a1.neB B h3 hf
  · exact a2.neB B h3 hf
  · exact a3.notBx B h1 h2 hf
theorem SessAll.notOwn {e sz n base2 : Nat} {v : Value} {cs : List Value} (h : SessAll w base S C F) (O : Own w base2 e sz v n cs) (h1 : e ≠ 126) (h2 : e ≠ 9) (h3 : e ≠ 46) : Dj (Bl v) F := fun x hx hf => by
  obtain ⟨i, hi, hf⟩ := (h.2.2.2 x).1 hf
  obtain ⟨a1, a2, a3⟩ := h.2.1 i hi
  rcases hf with hf | hf | hf
  · exact O.notOwn a1 h3 x hx hf
  · exact O.notOwn a2 h3 x hx hf
  · exact a3.notOwn O h1 h2 x hx hf
theorem SessAll.notMap {K V : Type} {kv : K → Value} {vv : V → Value} {es : List (K × V)} (h : SessAll w base S C F) (M : MapC kv vv w m es) : ¬ F m := fun hf => by
  obtain ⟨i, hi, hf⟩ := (h.2.2.2 m).1 hf
  obtain ⟨a1, a2, a3⟩ := h.2.1 i hi
  rcases hf with hf | hf | hf
  · exact a1.notMap M hf
  · exact a2.notMap M hf
  · exact a3.notMap M hf
theorem KernR.all (h : KernR w base k S M F) : ∃ lv m C F0, base ≤ k ∧ base ≤ m ∧ Bx w k 134 [lv, .map (some m)] ∧ Own w base 137 3 lv S.length (C.flatMap cellsK) ∧ MapC sv (Value.int .u64) w m M ∧ SessAll w base S C F0 ∧ ∀ x, F x ↔ x = k ∨ x = m ∨ Bl lv x ∨ F0 x := by
  obtain ⟨lv, m, C, hk, hm, hC, hx, O, hM, hS, hD, hF⟩ := h
  exact ⟨lv, m, C, _, hk, hm, hx, O, hM, ⟨hC, hS, hD, fun x => Iff.rfl⟩, hF⟩
end
end Go.Gx
namespace Go.Proofs.Ytmhdbphpmgjpcaa
open Go.Gx
end Go.Proofs.Ytmhdbphpmgjpcaa

/- Walks, written by a program: what each function of the translation hands back. -/
namespace Go.Proofs.Ytmhdbphpmgjpcaa
open Go.Gx Go.RowKit
attribute [local irreducible] wpList wpStill Code.wp Calls

theorem isNaN16_ret (m : UInt16) (w : World) : Ret Try.prog 151 #[(Value.int .u16 (m.toNat : Int))] w (fun v' w' => v' = .bool false ∧ w' = w) := by
 have hb := Below.refl w.heap.size w
 refine enter (N := 6) Try.func151 rfl rfl (by simp) fun a0 hN hd hA => ?_
 have s0 : a0.tmps.getD 0 undef = (Value.int .u16 (m.toNat : Int)) := hA 0 (by simp)
 clear hA
 refine seq_any fun K1 hK1 => ?_
 refine one_reg ?_
 refine op_assign rfl ?_
 refine reg_nil ?_
 refine hK1 _ _ ?_
 refine seq_any fun K2 hK2 => ?_
 refine one_reg ?_
 refine op_move (ev_base hN rfl s0) ?_
 refine op_move (ev_base hN rfl s0) ?_
 refine op_neq (ev_hit hN rfl) (ev_hit hN rfl) (fun c5 => ?_) (fun c5 => ?_)
 · -- 5T
  refine op_assign (ev_hit hN rfl) ?_
  refine reg_nil ?_
  refine hK2 _ _ ?_
  refine wp_ret ?_
  refine ret1 rfl hd (ev_hit hN rfl) ⟨_, rfl, ?_⟩
  -- path 5T
  exact (c5 rfl).elim
 · -- 5F
  refine op_assign (ev_hit hN rfl) ?_
  refine reg_nil ?_
  refine hK2 _ _ ?_
  refine wp_ret ?_
  refine ret1 rfl hd (ev_hit hN rfl) ⟨_, rfl, ?_⟩
  -- path 5F
  exact ⟨rfl, rfl⟩

end Go.Proofs.Ytmhdbphpmgjpcaa

/- Walks, written by a program: what each function of the translation hands back. -/
namespace Go.Proofs.Ytmhdbphpmgjpcaa
open Go.Gx Go.RowKit
attribute [local irreducible] wpList wpStill Code.wp Calls
open Go.Sort (insertionSort insOuter insInner swp siftDown heapSort heapBuild heapPop scanUp scanDown partition partLoop partitionEqual partEqLoop scanSorted partialIns bitsLen partialInsertionSort shiftDown shiftUp SortedIn reverseRange reverseLoop fixDown fixUp)
end Go.Proofs.Ytmhdbphpmgjpcaa

/- Walks, written by a program: what each function of the translation hands back. -/
namespace Go.Proofs.Ytmhdbphpmgjpcaa
open Go.Gx Go.RowKit
attribute [local irreducible] wpList wpStill Code.wp Calls
open Go.Sort (insertionSort insOuter insInner swp siftDown heapSort heapBuild heapPop scanUp scanDown partition partLoop partitionEqual partEqLoop scanSorted partialIns bitsLen partialInsertionSort shiftDown shiftUp SortedIn reverseRange reverseLoop fixDown fixUp)
end Go.Proofs.Ytmhdbphpmgjpcaa

/- Walks, written by a program: what each function of the translation hands back. -/
namespace Go.Proofs.Ytmhdbphpmgjpcaa
open Go.Gx Go.RowKit
attribute [local irreducible] wpList wpStill Code.wp Calls
open Go.Sort (insertionSort insOuter insInner swp siftDown heapSort heapBuild heapPop scanUp scanDown partition partLoop partitionEqual partEqLoop scanSorted partialIns bitsLen partialInsertionSort shiftDown shiftUp SortedIn reverseRange reverseLoop fixDown fixUp)
end Go.Proofs.Ytmhdbphpmgjpcaa

/- Walks, written by a program: what each function of the translation hands back. -/
namespace Go.Proofs.Ytmhdbphpmgjpcaa
open Go.Gx Go.RowKit
attribute [local irreducible] wpList wpStill Code.wp Calls
open Go.Sort (insertionSort insOuter insInner swp siftDown heapSort heapBuild heapPop scanUp scanDown partition partLoop partitionEqual partEqLoop scanSorted partialIns bitsLen partialInsertionSort shiftDown shiftUp SortedIn reverseRange reverseLoop fixDown fixUp)
end Go.Proofs.Ytmhdbphpmgjpcaa

/- Walks, written by a program: what each function of the translation hands back. -/
namespace Go.Proofs.Ytmhdbphpmgjpcaa
open Go.Gx Go.RowKit
attribute [local irreducible] wpList wpStill Code.wp Calls
open Go.Sort (insertionSort insOuter insInner swp siftDown heapSort heapBuild heapPop scanUp scanDown partition partLoop partitionEqual partEqLoop scanSorted partialIns bitsLen partialInsertionSort shiftDown shiftUp SortedIn reverseRange reverseLoop fixDown fixUp)
end Go.Proofs.Ytmhdbphpmgjpcaa

/- Walks, written by a program: what each function of the translation hands back. -/
namespace Go.Proofs.Ytmhdbphpmgjpcaa
open Go.Gx Go.RowKit
attribute [local irreducible] wpList wpStill Code.wp Calls
open Go.Sort (insertionSort insOuter insInner swp siftDown heapSort heapBuild heapPop scanUp scanDown partition partLoop partitionEqual partEqLoop scanSorted partialIns bitsLen partialInsertionSort shiftDown shiftUp SortedIn reverseRange reverseLoop fixDown fixUp)
end Go.Proofs.Ytmhdbphpmgjpcaa

/- Walks, written by a program: what each function of the translation hands back. -/
namespace Go.Proofs.Ytmhdbphpmgjpcaa
open Go.Gx Go.RowKit
attribute [local irreducible] wpList wpStill Code.wp Calls
open Go.Sort (insertionSort insOuter insInner swp siftDown heapSort heapBuild heapPop scanUp scanDown partition partLoop partitionEqual partEqLoop scanSorted partialIns bitsLen partialInsertionSort shiftDown shiftUp SortedIn reverseRange reverseLoop fixDown fixUp)
end Go.Proofs.Ytmhdbphpmgjpcaa

/- Walks, written by a program: what each function of the translation hands back. -/
namespace Go.Proofs.Ytmhdbphpmgjpcaa
open Go.Gx Go.RowKit
attribute [local irreducible] wpList wpStill Code.wp Calls
open Go.Sort (insertionSort insOuter insInner swp siftDown heapSort heapBuild heapPop scanUp scanDown partition partLoop partitionEqual partEqLoop scanSorted partialIns bitsLen partialInsertionSort shiftDown shiftUp SortedIn reverseRange reverseLoop fixDown fixUp)
end Go.Proofs.Ytmhdbphpmgjpcaa

/- Walks, written by a program: what each function of the translation hands back. -/
namespace Go.Proofs.Ytmhdbphpmgjpcaa
open Go.Gx Go.RowKit
attribute [local irreducible] wpList wpStill Code.wp Calls
open Go.Sort (insertionSort insOuter insInner swp siftDown heapSort heapBuild heapPop scanUp scanDown partition partLoop partitionEqual partEqLoop scanSorted partialIns bitsLen partialInsertionSort shiftDown shiftUp SortedIn reverseRange reverseLoop fixDown fixUp)
end Go.Proofs.Ytmhdbphpmgjpcaa

/- Walks, written by a program: what each function of the translation hands back. -/
namespace Go.Proofs.Ytmhdbphpmgjpcaa
open Go.Gx Go.RowKit
attribute [local irreducible] wpList wpStill Code.wp Calls
open Go.Sort (insertionSort insOuter insInner swp siftDown heapSort heapBuild heapPop scanUp scanDown partition partLoop partitionEqual partEqLoop scanSorted partialIns bitsLen partialInsertionSort shiftDown shiftUp SortedIn reverseRange reverseLoop fixDown fixUp)
end Go.Proofs.Ytmhdbphpmgjpcaa

/- Walks, written by a program: what each function of the translation hands back. -/
namespace Go.Proofs.Ytmhdbphpmgjpcaa
open Go.Gx Go.RowKit
attribute [local irreducible] wpList wpStill Code.wp Calls
open Go.Sort (insertionSort insOuter insInner swp siftDown heapSort heapBuild heapPop scanUp scanDown partition partLoop partitionEqual partEqLoop scanSorted partialIns bitsLen partialInsertionSort shiftDown shiftUp SortedIn reverseRange reverseLoop fixDown fixUp)
end Go.Proofs.Ytmhdbphpmgjpcaa

/- Walks, written by a program: what each function of the translation hands back. -/
namespace Go.Proofs.Ytmhdbphpmgjpcaa
open Go.Gx Go.RowKit
attribute [local irreducible] wpList wpStill Code.wp Calls
open Go.Sort (insertionSort insOuter insInner swp siftDown heapSort heapBuild heapPop scanUp scanDown partition partLoop partitionEqual partEqLoop scanSorted partialIns bitsLen partialInsertionSort shiftDown shiftUp SortedIn reverseRange reverseLoop fixDown fixUp)
end Go.Proofs.Ytmhdbphpmgjpcaa

/- Walks, written by a program: what each function of the translation hands back. -/
namespace Go.Proofs.Ytmhdbphpmgjpcaa
open Go.Gx Go.RowKit
attribute [local irreducible] wpList wpStill Code.wp Calls
open Go.Sort (insertionSort insOuter insInner swp siftDown heapSort heapBuild heapPop scanUp scanDown partition partLoop partitionEqual partEqLoop scanSorted partialIns bitsLen partialInsertionSort shiftDown shiftUp SortedIn reverseRange reverseLoop fixDown fixUp)
end Go.Proofs.Ytmhdbphpmgjpcaa

/- Walks, written by a program: what each function of the translation hands back. -/
namespace Go.Proofs.Ytmhdbphpmgjpcaa
open Go.Gx Go.RowKit
attribute [local irreducible] wpList wpStill Code.wp Calls

theorem CloneL (l : List UInt16) (v : Value) (w : World) (hz : l.length ≤ 1000000000000) (hl : RdC w 0 w.heap.size 1 v l.length (l.map u16v)) : Ret Try.prog 77 #[v] w (fun v' w' => Below w.heap.size w w' ∧ Own w' w.heap.size 46 1 v' l.length (l.map u16v)) := by
 have hb := Below.refl w.heap.size w
 refine enter (N := 8) Try.func77 rfl rfl (by simp) fun a0 hN hd hA => ?_
 have s0 : a0.tmps.getD 0 undef = v := hA 0 (by simp)
 clear hA
 refine seq_any fun K1 hK1 => ?_
 refine one_reg ?_
 refine op_assign rfl ?_
 refine reg_nil ?_
 refine hK1 _ _ ?_
 refine seq_any fun K2 hK2 => ?_
 refine seq_any fun K3 hK3 => ?_
 refine one_reg ?_
 refine op_move (ev_base hN rfl s0) ?_
 refine op_eql_nil slt54 (ev_hit hN rfl) rfl hl (fun c4 => ?_) ?_
 · -- 4T
  refine reg_nil ?_
  refine hK3 _ _ ?_
  refine wp_cond_true (ev_hit hN rfl) ?_
  refine seq_any fun K4 hK4 => ?_
  refine one_reg ?_
  refine op_assign rfl ?_
  refine reg_nil ?_
  refine hK4 _ _ ?_
  refine wp_ret (then_ret ( ?_))
  refine ret1 rfl hd (ev_hit hN rfl) ⟨_, rfl, ?_⟩
  -- path 4T
  exact ⟨hb, by rw [List.length_eq_zero_iff.1 c4]; exact Own.nil _ _ _ _⟩
 · -- 4F
  refine reg_nil ?_
  refine hK3 _ _ ?_
  refine wp_cond_false (ev_hit hN rfl) ?_
  refine wp_skip ?_
  refine hK2 _ _ ?_
  refine seq_any fun K5 hK5 => ?_
  refine one_reg ?_
  refine op_bslice (e := 46) (pv := []) (cs := []) trivial (by kernel_rfl) ?_
  intro w6 b7 lo_b7 hi_b7 hB9 E8
  have z_w6 := E8.size
  have hl := hl.keep0 E8
  have hb := below_step0 hb E8 hb.size
  refine op_move (ev_base hN rfl s0) ?_
  have hP15 := (Own.ofBx (base := w.heap.size) (sz := 1) (n := 0) hB9 rfl (by decide) (by omega))
  refine op_append slt54 (ev_hit hN rfl) hP15 (ev_hit hN rfl) (Src.ofRd Try.underlying54 (by decide) hl (one_u16 _)) (by unfold maxLen; omega) (by omega) hb.size ?_
  intro v10 w11 hO13 E12 hm14
  have z_w11 := E12.size
  have hl := hl.keepO hP15 E12 (by omega)
  have hb := below_stepO hb hP15 E12 hb.size (by omega)
  have hO13 : Own w11 w.heap.size 46 1 v10 (0 + l.length) ((l).map u16v) := by simpa [u8v, u16v, sv] using hO13
  refine op_assign (ev_hit hN rfl) ?_
  refine reg_nil ?_
  refine hK5 _ _ ?_
  refine wp_ret ?_
  refine ret1 rfl hd (ev_hit hN rfl) ⟨_, rfl, ?_⟩
  -- path 4F
  exact ⟨hb, hO13.cast (by simp) (by simp)⟩

end Go.Proofs.Ytmhdbphpmgjpcaa

/- Transactions and locks as objects: a box that holds a map of boxes. -/
namespace Go.Gx
/-- A transaction, plainly. -/
structure TX where
  label : List UInt16
  stamp : Int
  reads : List (List UInt8 × List UInt16)
  writes : List (List UInt8)
  doomed : Bool
instance : Inhabited TX := ⟨⟨[], 0, [], [], false⟩⟩
/-- A read: the table, where its label lies, and which it is. -/
structure RD where
  tab : List UInt8
  la : Value
  lab : List UInt16
instance : Inhabited RD := ⟨⟨[], .slice none 0 0, []⟩⟩
def cellsRd (r : RD) : List Value := [.string (bs r.tab), r.la]
def rdL (r : RD) : Value × List UInt16 := (r.la, r.lab)
def rOf (r : RD) : List UInt8 × List UInt16 := (r.tab, r.lab)
/-- Where a transaction's parts lie. -/
structure TC where
  p : Nat
  la : Value
  rv : Value
  wv : Value
  D : List RD
instance : Inhabited TC := ⟨⟨0, .slice none 0 0, .slice none 0 0, .slice none 0 0, []⟩⟩
def pv (p : Nat) : Value := ptr p 0
def TxAt (w : World) (base : Nat) (t : TX) (c : TC) : Prop :=
  base ≤ c.p ∧ Bx w c.p 164 [c.la, .int .u64 t.stamp, c.rv, c.wv, .bool t.doomed] ∧ Own w base 46 1 c.la t.label.length (t.label.map u16v) ∧ Own w base 169 2 c.rv c.D.length (c.D.flatMap cellsRd) ∧
    (∀ x9 ∈ c.D.map rdL, Own w base 46 1 x9.1 x9.2.length (x9.2.map u16v)) ∧ Own w base 9 1 c.wv t.writes.length (t.writes.map sv) ∧ c.D.map rOf = t.reads
def PartT (c : TC) (x : Nat) : Prop := x = c.p ∨ Bl c.la x ∨ Bl c.rv x ∨ Bl c.wv x ∨ ∃ r ∈ c.D, Bl r.la x
abbrev TM := List (Int × TX)
def esOf (M : TM) (C : List TC) : List (Int × Nat) := List.zipWith (fun a c => (a.1, c.p)) M C
/-- All transactions. -/
def LkAll (w : World) (base : Nat) (M : TM) (C : List TC) (F : Nat → Prop) : Prop :=
  C.length = M.length ∧ (∀ i, i < M.length → TxAt w base (M.getD i default).2 (C.getD i default)) ∧ (∀ i j, i < M.length → j < M.length → i ≠ j → Dj (PartT (C.getD i default)) (PartT (C.getD j default))) ∧ (∀ x, F x ↔ ∃ i, i < M.length ∧ PartT (C.getD i default) x)
def MapN (w : World) (base : Nat) (mv : Value) (es : List (Int × Nat)) : Prop := (mv = .map none ∧ es = []) ∨ ∃ m, mv = .map (some m) ∧ base ≤ m ∧ MapC (Value.int .i64) pv w m es
/-- Locks: box k, its map, its transactions; F: all its blocks. -/
def LocksR (w : World) (base k : Nat) (M : TM) (F : Nat → Prop) : Prop :=
  ∃ (mv : Value) (C : List TC) (F0 : Nat → Prop), base ≤ k ∧ Bx w k 121 [mv] ∧ MapN w base mv (esOf M C) ∧ LkAll w base M C F0 ∧ (∀ x, F x ↔ x = k ∨ mv = .map (some x) ∨ F0 x)
section
variable {w w' : World} {base k m b t e sz n i j : Nat} {M : TM} {C : List TC} {F G : Nat → Prop} {cs : List Value} {v mv : Value} {T T' : TX} {c c' : TC}
theorem TxAt.lt (h : TxAt w base T c) : ∀ x, PartT c x → base ≤ x ∧ x < w.heap.size := fun x hx => by
  obtain ⟨h0, h1, h2, h3, h4, h5, _⟩ := h
  rcases hx with rfl | hx | hx | hx | ⟨r, hr, hx⟩
  · exact ⟨h0, h1.lt⟩
  · exact h2.lt x hx
  · exact h3.lt x hx
  · exact h5.lt x hx
  · exact (h4 _ (List.mem_map.2 ⟨r, hr, rfl⟩)).lt x hx
theorem TxAt.keepG (h : TxAt w base T c) (E : Gr w w' G) (hd : Dj (PartT c) G) : TxAt w' base T c := by
  obtain ⟨h0, h1, h2, h3, h4, h5, h6⟩ := h
  refine ⟨h0, h1.keepG E (hd _ (.inl rfl)), h2.keepG E fun x hx => hd x (.inr (.inl hx)), h3.keepG E fun x hx => hd x (.inr (.inr (.inl hx))), fun x9 hx9 => (h4 x9 hx9).keepG E fun x hx => ?_, h5.keepG E fun x hx => hd x (.inr (.inr (.inr (.inl hx)))), h6⟩
  obtain ⟨r, hr, rfl⟩ := List.mem_map.1 hx9
  exact hd x (.inr (.inr (.inr (.inr ⟨r, hr, hx⟩))))
theorem TxAt.mono {base' : Nat} (h : TxAt w base T c) (hb : base' ≤ base) : TxAt w base' T c :=
  ⟨Nat.le_trans hb h.1, h.2.1, h.2.2.1.mono hb, h.2.2.2.1.mono hb, fun x9 hx9 => (h.2.2.2.2.1 x9 hx9).mono hb, h.2.2.2.2.2.1.mono hb, h.2.2.2.2.2.2⟩
theorem TxAt.notBx (h : TxAt w base T c) (B : Bx w b t cs) (h1 : t ≠ 164) (h2 : t ≠ 46) (h3 : t ≠ 169) (h4 : t ≠ 9) : ¬ PartT c b := fun hf => by
  obtain ⟨a0, a1, a2, a3, a4, a5, _⟩ := h
  rcases hf with hf | hf | hf | hf | ⟨r, hr, hf⟩
  · exact B.ne a1 h1 hf
  · exact a2.neB B h2 hf
  · exact a3.neB B h3 hf
  · exact a5.neB B h4 hf
  · exact (a4 _ (List.mem_map.2 ⟨r, hr, rfl⟩)).neB B h2 hf
theorem TxAt.notOwn {base2 : Nat} (h : TxAt w base T c) (O : Own w base2 e sz v n cs) (h1 : e ≠ 164) (h2 : e ≠ 46) (h3 : e ≠ 169) (h4 : e ≠ 9) : Dj (Bl v) (PartT c) := fun x hx hf => by
  obtain ⟨a0, a1, a2, a3, a4, a5, _⟩ := h
  rcases hf with rfl | hf | hf | hf | ⟨r, hr, hf⟩
  · exact O.neB a1 (fun q => h1 q.symm) hx
  · exact O.notOwn a2 h2 x hx hf
  · exact O.notOwn a3 h3 x hx hf
  · exact O.notOwn a5 h4 x hx hf
  · exact O.notOwn (a4 _ (List.mem_map.2 ⟨r, hr, rfl⟩)) h2 x hx hf
theorem TxAt.notMap {K V : Type} {kv : K → Value} {vv : V → Value} {es : List (K × V)} (h : TxAt w base T c) (Mp : MapC kv vv w m es) : ¬ PartT c m := fun hf => by
  obtain ⟨a0, a1, a2, a3, a4, a5, _⟩ := h
  rcases hf with hf | hf | hf | hf | ⟨r, hr, hf⟩
  · exact a1.notMap Mp hf.symm
  · exact a2.notMap Mp hf
  · exact a3.notMap Mp hf
  · exact a5.notMap Mp hf
  · exact (a4 _ (List.mem_map.2 ⟨r, hr, rfl⟩)).notMap Mp hf
theorem LkAll.lt (h : LkAll w base M C F) : ∀ x, F x → base ≤ x ∧ x < w.heap.size := fun x hx => by
  obtain ⟨i, hi, hx⟩ := (h.2.2.2 x).1 hx
  exact (h.2.1 i hi).lt x hx
theorem LkAll.keepG (h : LkAll w base M C F) (E : Gr w w' G) (hd : Dj F G) : LkAll w' base M C F :=
  ⟨h.1, fun i hi => (h.2.1 i hi).keepG E fun x hx => hd x ((h.2.2.2 x).2 ⟨i, hi, hx⟩), h.2.2.1, h.2.2.2⟩
theorem LkAll.mono {base' : Nat} (h : LkAll w base M C F) (hb : base' ≤ base) : LkAll w base' M C F := ⟨h.1, fun i hi => (h.2.1 i hi).mono hb, h.2.2⟩
theorem LkAll.nil (w : World) (base : Nat) : LkAll w base [] [] NoB := ⟨rfl, fun _ h => absurd h (Nat.not_lt_zero _), fun _ _ h => absurd h (Nat.not_lt_zero _), fun x => ⟨fun h => h.elim, fun ⟨_, h, _⟩ => absurd h (Nat.not_lt_zero _)⟩⟩
theorem LkAll.notBx (h : LkAll w base M C F) (B : Bx w b t cs) (h1 : t ≠ 164) (h2 : t ≠ 46) (h3 : t ≠ 169) (h4 : t ≠ 9) : ¬ F b := fun hf => by
  obtain ⟨i, hi, hf⟩ := (h.2.2.2 b).1 hf
  exact (h.2.1 i hi).notBx B h1 h2 h3 h4 hf
theorem LkAll.notOwn {base2 : Nat} (h : LkAll w base M C F) (O : Own w base2 e sz v n cs) (h1 : e ≠ 164) (h2 : e ≠ 46) (h3 : e ≠ 169) (h4 : e ≠ 9) : Dj (Bl v) F := fun x hx hf => by
  obtain ⟨i, hi, hf⟩ := (h.2.2.2 x).1 hf
  exact (h.2.1 i hi).notOwn O h1 h2 h3 h4 x hx hf
theorem LkAll.notMap {K V : Type} {kv : K → Value} {vv : V → Value} {es : List (K × V)} (h : LkAll w base M C F) (Mp : MapC kv vv w m es) : ¬ F m := fun hf => by
  obtain ⟨i, hi, hf⟩ := (h.2.2.2 m).1 hf
  exact (h.2.1 i hi).notMap Mp hf
theorem LkAll.snoc (h : LkAll w base M C F) {n : Int} (hT : TxAt w base T c) (hd : Dj F (PartT c)) : LkAll w base (M ++ [(n, T)]) (C ++ [c]) (fun x => F x ∨ PartT c x) := by
  obtain ⟨h1, h2, h3, h4⟩ := h
  have hlast : ∀ {i}, i < (M ++ [(n, T)]).length → ¬ i < M.length → i = M.length := fun {i} a b => by simp at a; omega
  have eC : (C ++ [c]).getD M.length default = c := by rw [← h1]; exact getD_snoc_eq
  have eM : (M ++ [(n, T)]).getD M.length default = (n, T) := getD_snoc_eq
  have hdj : ∀ i, i < M.length → Dj (PartT (C.getD i default)) (PartT c) := fun i hi x hx => hd x ((h4 x).2 ⟨i, hi, hx⟩)
  refine ⟨by simp [h1], fun i hi => ?_, fun i j hi hj hne => ?_, fun x => ⟨fun hx => ?_, fun hx => ?_⟩⟩
  · by_cases hs : i < M.length
    · rw [getD_snoc_lt hs, getD_snoc_lt (by rw [h1]; exact hs)]; exact h2 i hs
    · obtain rfl := hlast hi hs
      rw [eM, eC]; exact hT
  · by_cases hs : i < M.length <;> by_cases hs2 : j < M.length
    · rw [getD_snoc_lt (by rw [h1]; exact hs), getD_snoc_lt (by rw [h1]; exact hs2)]; exact h3 i j hs hs2 hne
    · obtain rfl := hlast hj hs2
      rw [getD_snoc_lt (by rw [h1]; exact hs), eC]; exact hdj i hs
    · obtain rfl := hlast hi hs
      rw [eC, getD_snoc_lt (by rw [h1]; exact hs2)]; exact (hdj j hs2).symm
    · exact absurd ((hlast hi hs).trans (hlast hj hs2).symm) hne
  · rcases hx with hx | hx
    · obtain ⟨i, hi, hx⟩ := (h4 x).1 hx
      exact ⟨i, by simp; omega, by rw [getD_snoc_lt (by rw [h1]; exact hi)]; exact hx⟩
    · exact ⟨M.length, by simp, by rw [eC]; exact hx⟩
  · obtain ⟨i, hi, hx⟩ := hx
    by_cases hs : i < M.length
    · rw [getD_snoc_lt (by rw [h1]; exact hs)] at hx; exact .inl ((h4 x).2 ⟨i, hs, hx⟩)
    · obtain rfl := hlast hi hs
      rw [eC] at hx; exact .inr hx
theorem getD_erase {α : Type} {l : List α} {i j : Nat} {d : α} : (l.eraseIdx j).getD i d = if i < j then l.getD i d else l.getD (i + 1) d := by
  simp only [List.getD_eq_getElem?_getD, List.getElem?_eraseIdx]
  split <;> rfl
theorem LkAll.erase (h : LkAll w base M C F) (hj : j < M.length) : ∃ F2, LkAll w base (M.eraseIdx j) (C.eraseIdx j) F2 ∧ ∀ x, F2 x → F x := by
  obtain ⟨h1, h2, h3, h4⟩ := h
  have hl : (M.eraseIdx j).length = M.length - 1 := by rw [List.length_eraseIdx, if_pos hj]
  have up : ∀ i, i < (M.eraseIdx j).length → (if i < j then i else i + 1) < M.length := fun i hi => by split <;> omega
  have gM : ∀ i, (M.eraseIdx j).getD i default = M.getD (if i < j then i else i + 1) default := fun i => by rw [getD_erase]; split <;> rfl
  have gC : ∀ i, (C.eraseIdx j).getD i default = C.getD (if i < j then i else i + 1) default := fun i => by rw [getD_erase]; split <;> rfl
  refine ⟨_, ⟨by rw [List.length_eraseIdx, if_pos (by omega), hl, h1], fun i hi => ?_, fun a b ha hb hab => ?_, fun x => Iff.rfl⟩, fun x hx => ?_⟩
  · rw [gM, gC]; exact h2 _ (up i hi)
  · rw [gC, gC]
    refine h3 _ _ (up a ha) (up b hb) ?_
    split <;> split <;> omega
  · obtain ⟨i, hi, hx⟩ := hx
    rw [gC] at hx
    exact (h4 x).2 ⟨_, up i hi, hx⟩
/-- One transaction turns. -/
theorem LkAll.turn (h : LkAll w base M C F) (hi : i < M.length) {n : Int} (E : Gr w w' (PartT (C.getD i default))) (hT : TxAt w' base T' c') (hN : ∀ x, PartT c' x → PartT (C.getD i default) x ∨ w.heap.size ≤ x) :
    Gr w w' F ∧ ∃ F2, LkAll w' base (M.set i (n, T')) (C.set i c') F2 ∧ NewF w.heap.size F F2 := by
  obtain ⟨h1, h2, h3, h4⟩ := h
  have hiC : i < C.length := by rw [h1]; exact hi
  have gC : ∀ j, (C.set i c').getD j default = if j = i then c' else C.getD j default := fun j => getD_set hiC
  have gM : ∀ j, (M.set i (n, T')).getD j default = if j = i then (n, T') else M.getD j default := fun j => getD_set hi
  refine ⟨E.mono fun x _ hx => (h4 x).2 ⟨i, hi, hx⟩, _, ⟨by simp [h1], fun j hj => ?_, fun a b ha hb hab => ?_, fun x => Iff.rfl⟩, fun x hx => ?_⟩
  · rw [List.length_set] at hj
    rw [gM, gC]
    by_cases hji : j = i
    · rw [if_pos hji, if_pos hji]; exact hT
    · rw [if_neg hji, if_neg hji]; exact (h2 j hj).keepG E (h3 j i hj hi hji)
  · rw [List.length_set] at ha hb
    rw [gC, gC]
    by_cases q1 : a = i <;> by_cases q2 : b = i
    · exact absurd (q1.trans q2.symm) hab
    · rw [if_pos q1, if_neg q2]
      exact (Dj.stepF hN (fun x hx => ((h2 b hb).lt x hx).2) (h3 b i hb hi q2)).symm
    · rw [if_neg q1, if_pos q2]
      exact Dj.stepF hN (fun x hx => ((h2 a ha).lt x hx).2) (h3 a i ha hi q1)
    · rw [if_neg q1, if_neg q2]; exact h3 a b ha hb hab
  · obtain ⟨j, hj, hx⟩ := hx
    rw [List.length_set] at hj
    rw [gC] at hx
    by_cases hji : j = i
    · rw [if_pos hji] at hx
      exact (hN x hx).imp (fun q => (h4 x).2 ⟨i, hi, q⟩) id
    · rw [if_neg hji] at hx
      exact .inl ((h4 x).2 ⟨j, hj, hx⟩)
theorem el_rdd {D : List RD} {e : Int} {i : Nat} (he : e = (i : Int)) (h : i < D.length) : ∀ j u, ([.string (bs (D.getD i default).tab), (D.getD i default).la] : List Value)[j]? = some u → (D.flatMap cellsRd)[e.toNat * 2 + j]? = some u :=
  el_flat (f := cellsRd) (d := default) (by decide) (fun _ _ => rfl) he h
/-! the map's own list -/
theorem esOf_len (h : C.length = M.length) : (esOf M C).length = M.length := by unfold esOf; simp [h]
theorem esOf_keys (h : C.length = M.length) : (esOf M C).map Prod.fst = M.map Prod.fst := by
  unfold esOf
  apply List.ext_getElem?
  intro i
  simp only [List.getElem?_map, List.getElem?_zipWith]
  by_cases hi : i < M.length
  · rw [List.getElem?_eq_getElem hi, List.getElem?_eq_getElem (by omega)]; rfl
  · rw [List.getElem?_eq_none (by omega), List.getElem?_eq_none (by omega)]; rfl
theorem esOf_look : ∀ {M : TM} {C : List TC} {n : Int}, C.length = M.length → mlook (esOf M C) n = (mlook M n).map fun q => (q.1, (C.getD q.1 default).p)
  | [], [], _, _ => rfl
  | [], _ :: _, _, h => by cases h
  | _ :: _, [], _, h => by cases h
  | (a, t) :: M, c :: C, n, h => by
    have ih := esOf_look (M := M) (C := C) (n := n) (by simpa using h)
    unfold esOf at ih ⊢
    simp only [List.zipWith_cons_cons, mlook]
    split
    · rfl
    · rw [ih]; cases mlook M n <;> rfl
theorem esOf_set (h : C.length = M.length) {n : Int} (hp : c'.p = (C.getD i default).p) (hk : i < M.length → (M.getD i default).1 = n) : esOf (M.set i (n, T')) (C.set i c') = esOf M C := by
  unfold esOf
  apply List.ext_getElem?
  intro q
  simp only [List.getElem?_zipWith, List.getElem?_set]
  by_cases hq : i = q
  · subst hq
    by_cases hi : i < M.length
    · have hiC : i < C.length := by omega
      rw [if_pos rfl, if_pos hi, if_pos rfl, if_pos hiC, List.getElem?_eq_getElem hi, List.getElem?_eq_getElem hiC]
      have h1 := hk hi
      simp only [List.getD_eq_getElem?_getD, List.getElem?_eq_getElem hi, List.getElem?_eq_getElem hiC, Option.getD_some] at h1 hp
      simp only []
      rw [h1, hp]
    · rw [if_pos rfl, if_neg hi, if_pos rfl, if_neg (by omega), List.getElem?_eq_none (by omega), List.getElem?_eq_none (by omega)]
  · rw [if_neg hq, if_neg hq]
theorem esOf_snoc (h : C.length = M.length) {n : Int} : esOf (M ++ [(n, T)]) (C ++ [c]) = esOf M C ++ [(n, c.p)] := by
  unfold esOf
  rw [List.zipWith_append (by omega)]; rfl
theorem esOf_erase (h : C.length = M.length) : esOf (M.eraseIdx j) (C.eraseIdx j) = (esOf M C).eraseIdx j := by
  unfold esOf
  apply List.ext_getElem?
  intro q
  simp only [List.getElem?_zipWith, List.getElem?_eraseIdx]
  by_cases hq : q < j
  · simp only [if_pos hq]
  · simp only [if_neg hq]
/-! the whole -/
theorem LocksR.lt (h : LocksR w base k M F) : ∀ x, F x → base ≤ x ∧ x < w.heap.size := by
  obtain ⟨mv, C, F0, hk, hx, hM, hA, hF⟩ := h
  intro x hf
  rcases (hF x).1 hf with rfl | hf | hf
  · exact ⟨hk, hx.lt⟩
  · rcases hM with ⟨rfl, _⟩ | ⟨m, rfl, hm, hM⟩
    · cases hf
    · injection hf with hf; injection hf with hf; subst hf; exact ⟨hm, hM.lt⟩
  · exact hA.lt x hf
theorem LocksR.keepG (h : LocksR w base k M F) (E : Gr w w' G) (hd : Dj F G) : LocksR w' base k M F := by
  obtain ⟨mv, C, F0, hk, hx, hM, hA, hF⟩ := h
  refine ⟨mv, C, F0, hk, hx.keepG E (hd k ((hF k).2 (.inl rfl))), ?_, hA.keepG E (fun x hx => hd x ((hF x).2 (.inr (.inr hx)))), hF⟩
  rcases hM with hM | ⟨m, rfl, hm, hM⟩
  · exact .inl hM
  · exact .inr ⟨m, rfl, hm, hM.keepG E (hd m ((hF m).2 (.inr (.inl rfl))))⟩
theorem LocksR.mono {base' : Nat} (h : LocksR w base k M F) (hb : base' ≤ base) : LocksR w base' k M F := by
  obtain ⟨mv, C, F0, hk, hx, hM, hA, hF⟩ := h
  refine ⟨mv, C, F0, Nat.le_trans hb hk, hx, ?_, hA.mono hb, hF⟩
  rcases hM with hM | ⟨m, rfl, hm, hM⟩
  · exact .inl hM
  · exact .inr ⟨m, rfl, Nat.le_trans hb hm, hM⟩
end
end Go.Gx

/- Small laws for walks, the thirty-fourth part: pointers that are not nil. -/
namespace Go.Gx
open Go.RowKit
section
variable {P : Program} {Q : Exit → Act → World → Prop} {a : Act} {w w' : World} {l : List (Nat × Value)} {ops : Array Oper} {rest : List Oper}
variable {d ty t e xt yt : Nat} {p : String} {af : Array Edge} {x y : Operand} {b off : Nat}
end
end Go.Gx

/- Small laws for walks, the thirty-fifth part: functions that are handed in. -/
namespace Go.Gx
open Go.RowKit
section
variable {P : Program} {Q : Exit → Act → World → Prop} {a : Act} {w : World} {l : List (Nat × Value)} {ops : Array Oper} {rest : List Oper}
variable {d ty : Nat} {p : String} {af : Array Edge}
theorem op_mkfn1 {f : FuncId} {fo co : List Operand} {fv cv : List Value} (hf : argsEv (putsL a l).eval fo fv) (hm : argsEv (putsL a l).eval co cv) (h : wpList P ops Q rest (putsL a ((d, .func (.func f) fv.toArray cv.toArray) :: l)) w) :
    wpList P ops Q (⟨some d, .makeFunc (.func f) fo.toArray co.toArray, ty, p, af, none⟩ :: rest) (putsL a l) w :=
  op_gen rfl (by
    simp only [execOp]
    rw [List.map_toArray, argsEv_map hf, List.map_toArray, argsEv_map hm]
    rfl) h
end
section
variable {K V : Type} {P : Program} {Q : Exit → Act → World → Prop} {a : Act} {w w' : World} {l : List (Nat × Value)} {ops : Array Oper} {rest : List Oper}
variable {ty mt kt et m : Nat} {p : String} {af : Array Edge} {x y : Operand} {kv : K → Value} {vv : V → Value} {es : List (K × V)} {k : K}
theorem op_mapdel0 [DecidableEq K] (ht : P.underlying mt = some (.map kt et)) (T : KeyT P kt kv) (hx : (putsL a l).eval x = .map (some m)) (hy : (putsL a l).eval y = kv k) (M : MapC kv vv w m es) (h : ∀ w', MapC kv vv w' m (mdel es k) → w.grownBy w' (some m) → wpList P ops Q rest (putsL a l) w') :
    wpList P ops Q (⟨none, .call ⟨.builtin .delete, #[x, y], #[mt, kt]⟩, ty, p, af, none⟩ :: rest) (putsL a l) w := by
  obtain ⟨w', hr, M', E⟩ := run_delete (P := P) (ty := ty) ht T M k
  exact op_gen (w' := w') (v := .tuple #[]) rfl (by simp [execOp, hx, hy, resolve, invoke, builtin, hr]) (h w' M' E)
end
theorem rd_len {w : World} {L B sz n : Nat} {v : Value} {cs : List Value} (h : RdC w L B sz v n cs) : n ≤ 9223372036854775807 := by obtain ⟨_, _, _, _, hq, hm, _⟩ := h; exact Nat.le_trans hq hm
theorem idx_t {n : Int} {b : Bool} (h : 0 ≤ n ↔ b = true) (c : 0 ≤ n) : true = b := (h.1 c).symm
theorem idx_f {n : Int} {b : Bool} (h : 0 ≤ n ↔ b = true) (c : ¬ 0 ≤ n) : false = b := by
  cases b with
  | false => rfl
  | true => exact absurd (h.2 rfl) c
theorem any_step {α : Type} {L : List α} {p : α → Bool} {i : Nat} {d : α} (hi : i < L.length) (h : (L.take i).any p = false) (h2 : p (L.getD i d) = false) : (L.take (i + 1)).any p = false := by
  have e : L.take (i + 1) = L.take i ++ [L.getD i d] := by simp [List.getD_eq_getElem?_getD, hi]
  rw [e, List.any_append, h, List.any_cons, h2]; rfl
theorem any_hit {α : Type} {L : List α} {p : α → Bool} {i : Nat} {d : α} (hi : i < L.length) (h2 : p (L.getD i d) = true) : L.any p = true := by
  rw [List.any_eq_true]; exact ⟨_, getD_mem hi, h2⟩
theorem any_end {α : Type} {L : List α} {p : α → Bool} {i : Nat} (hi : L.length ≤ i) (h : (L.take i).any p = false) : L.any p = false := by
  rw [List.take_of_length_le hi] at h; exact h
end Go.Gx

/- Walks, written by a program: what each function of the translation hands back. -/
namespace Go.Proofs.Ytmhdbphpmgjpcaa
open Go.Gx Go.RowKit
attribute [local irreducible] wpList wpStill Code.wp Calls

theorem IdxF_s {L : List (List UInt8)} {v : Value} {p : (List UInt8) → Bool} {w : World} (hl : RdC w 0 w.heap.size 1 v L.length (L.map sv)) {g : Nat} {fs cs : List Value} (hokg : callOk Try.prog g = true) (hf : ∀ i, i < L.length → ∀ w1, Below w.heap.size w w1 → Ret Try.prog g (fs ++ [Value.string (bs (L.getD i []))] ++ cs).toArray w1 (fun v' w' => Below w1.heap.size w1 w' ∧ v' = .bool (p (L.getD i [])))) : Ret Try.prog 141 #[v, (Value.func (.func g) fs.toArray cs.toArray)] w (fun v' w' => Below w.heap.size w w' ∧ ∃ n : Int, v' = .int .i64 n ∧ (0 ≤ n ↔ L.any p = true)) := by
 have hlm := rd_len hl
 have hb := Below.refl w.heap.size w
 refine enter (N := 19) Try.func141 rfl rfl (by simp) fun a0 hN hd hA => ?_
 have s0 : a0.tmps.getD 0 undef = v := hA 0 (by simp)
 have s1 : a0.tmps.getD 1 undef = (Value.func (.func g) fs.toArray cs.toArray) := hA 1 (by simp)
 clear hA
 refine seq_any fun K1 hK1 => ?_
 refine one_reg ?_
 refine op_assign rfl ?_
 refine reg_nil ?_
 refine hK1 _ _ ?_
 refine seq_any fun K2 hK2 => ?_
 refine seq_any fun K3 hK3 => ?_
 refine one_reg ?_
 refine op_move (ev_base hN rfl s0) ?_
 refine op_len_rd Try.underlying26 (ev_hit hN rfl) hl ?_
 refine op_move rfl ?_
 refine reg_nil ?_
 refine hK3 _ _ ?_
 refine wp_block ?_
 refine loop_m (fun mz_ az_ w' => ∃ (i : Nat), mz_ = L.length - i ∧ (az_.tmps.getD 0 undef = v) ∧ (az_.tmps.getD 1 undef = (Value.func (.func g) fs.toArray cs.toArray)) ∧ (az_.tmps.getD 7 undef = (Value.int .i64 ((L.length : Nat) : Int))) ∧ (az_.tmps.getD 8 undef = (Value.int .i64 ((i : Nat) : Int))) ∧ (i ≤ L.length) ∧ ((L.take i).any p = false) ∧ (Below w.heap.size w w') ∧ (w.heap.size ≤ w'.heap.size) ∧ (RdC w' 0 w.heap.size 1 v L.length (L.map sv))) _ hN hd ⟨0, rfl, (sl_base hN rfl s0), (sl_base hN rfl s1), (sl_hit hN rfl), (sl_hit hN rfl), (Nat.zero_le _), rfl, hb, (Nat.le_refl _), hl⟩ ?_
 rintro _ a4 w4 hN4 hd4 ⟨i, rfl, s4_0, s4_1, s4_7, s4_8, hi, hnone, hb, zl_w4, hl⟩
 have z_w4 := hb.size
 refine seq_any fun K5 hK5 => ?_
 refine one_reg ?_
 refine op_lss (ev_base hN4 rfl s4_8) (ev_base hN4 rfl s4_7) (fun c9 => ?_) (fun c9 => ?_)
 · -- 9T
  refine reg_nil ?_
  refine hK5 _ _ ?_
  refine seq_any fun K6 hK6 => ?_
  refine wp_cond_true (ev_hit hN4 rfl) ?_
  refine wp_skip ?_
  refine hK6 _ _ ?_
  refine seq_any fun K7 hK7 => ?_
  refine wp_block ?_
  refine seq_any fun K8 hK8 => ?_
  refine one_reg ?_
  refine op_move (ev_base hN4 rfl s4_8) ?_
  refine op_assign (ev_hit hN4 rfl) ?_
  refine reg_nil ?_
  refine hK8 _ _ ?_
  refine seq_any fun K9 hK9 => ?_
  refine one_reg ?_
  refine op_move (ev_base hN4 rfl s4_1) ?_
  refine op_move (ev_base hN4 rfl s4_0) ?_
  refine op_move (ev_hit hN4 rfl) ?_
  refine op_index_rd slt26 (ev_hit hN4 rfl) hl (ev_hit hN4 rfl) (by omega) (by omega) ?_
  intro b10 o11 h0b10 h1b10 hc12
  refine op_load1 (v := (Value.string (bs (L.getD i [])))) one9 (ev_hit hN4 rfl) (by have := hc12 0 (Value.string (bs (L.getD i []))) (by decide) (el_sv (i := i) (by omega) (by omega)); simpa using this) ?_
  refine op_fnv (fs := fs) (vs := [(Value.string (bs (L.getD i [])))]) (cs := cs) (ev_hit hN4 rfl) hokg ⟨(ev_hit hN4 rfl), trivial⟩ (hf i (by omega) _ hb) ?_
  rintro _ w13 ⟨E14, rfl⟩
  have E14 := grown_of_below E14
  have z_w13 := E14.size
  have hl := hl.keep0 E14
  have hb := below_step0 hb E14 hb.size
  rcases Bool.eq_false_or_eq_true ((p (L.getD i []))) with c16 | c16
  · -- 16T
   rw [c16]
   refine reg_nil ?_
   refine hK9 _ _ ?_
   refine wp_cond_true (ev_hit hN4 rfl) ?_
   refine seq_any fun K15 hK15 => ?_
   refine one_reg ?_
   refine op_move (ev_hit hN4 rfl) ?_
   refine op_assign (ev_hit hN4 rfl) ?_
   refine reg_nil ?_
   refine hK15 _ _ ?_
   refine wp_ret (blk_ret (then_ret (then_ret (blk_ret (then_ret ( ?_))))))
   refine ret1 rfl hd4 (ev_hit hN4 rfl) ⟨_, rfl, ?_⟩
   -- path 9T 16T
   exact ⟨hb, _, rfl, ⟨fun _ => any_hit (by omega) c16, fun _ => by omega⟩⟩
  · -- 16F
   rw [c16]
   refine reg_nil ?_
   refine hK9 _ _ ?_
   refine wp_cond_false (ev_hit hN4 rfl) ?_
   refine wp_skip ?_
   refine hK7 _ _ ?_
   refine one_reg ?_
   refine op_add (ev_base hN4 rfl s4_8) rfl (add64 (by omega)) ?_
   refine op_move (ev_hit hN4 rfl) ?_
   refine reg_nil ?_
   -- round 9T 16F
   exact loop_next _ hN4 hd4 ⟨(i + 1), rfl, (sl_base hN4 rfl s4_0), (sl_base hN4 rfl s4_1), (sl_base hN4 rfl s4_7), (sl_hit hN4 rfl).trans (congrArg (Value.int .i64) (by omega)), (by omega), (any_step (by omega) hnone c16), hb, (by omega), hl⟩ (by omega)
 · -- 9F
  refine reg_nil ?_
  refine hK5 _ _ ?_
  refine seq_any fun K16 hK16 => ?_
  refine wp_cond_false (ev_hit hN4 rfl) ?_
  refine wp_exit (then_exit (then_exit (blk_hit ?_)))
  refine hK2 _ _ ?_
  refine seq_any fun K17 hK17 => ?_
  refine one_reg ?_
  refine op_assign rfl ?_
  refine reg_nil ?_
  refine hK17 _ _ ?_
  refine wp_ret ?_
  refine ret1 rfl hd4 (ev_hit hN4 rfl) ⟨_, rfl, ?_⟩
  -- path 9F
  exact ⟨hb, _, rfl, ⟨fun h => absurd h (by decide), fun h => by rw [any_end (by omega) hnone] at h; cases h⟩⟩

theorem ContF_s {L : List (List UInt8)} {v : Value} {p : (List UInt8) → Bool} {w : World} (hl : RdC w 0 w.heap.size 1 v L.length (L.map sv)) {g : Nat} {fs cs : List Value} (hokg : callOk Try.prog g = true) (hf : ∀ i, i < L.length → ∀ w1, Below w.heap.size w w1 → Ret Try.prog g (fs ++ [Value.string (bs (L.getD i []))] ++ cs).toArray w1 (fun v' w' => Below w1.heap.size w1 w' ∧ v' = .bool (p (L.getD i [])))) : Ret Try.prog 124 #[v, (Value.func (.func g) fs.toArray cs.toArray)] w (fun v' w' => Below w.heap.size w w' ∧ v' = .bool (L.any p)) := by
 have hb := Below.refl w.heap.size w
 refine enter (N := 9) Try.func124 rfl rfl (by simp) fun a0 hN hd hA => ?_
 have s0 : a0.tmps.getD 0 undef = v := hA 0 (by simp)
 have s1 : a0.tmps.getD 1 undef = (Value.func (.func g) fs.toArray cs.toArray) := hA 1 (by simp)
 clear hA
 refine seq_any fun K18 hK18 => ?_
 refine one_reg ?_
 refine op_assign rfl ?_
 refine reg_nil ?_
 refine hK18 _ _ ?_
 refine seq_any fun K19 hK19 => ?_
 refine one_reg ?_
 refine op_move (ev_base hN rfl s0) ?_
 refine op_move (ev_base hN rfl s1) ?_
 refine op_fn (vs := [v, (Value.func (.func g) fs.toArray cs.toArray)]) ok141 ⟨(ev_hit hN rfl), ⟨(ev_hit hN rfl), trivial⟩⟩ (IdxF_s hl hokg hf) ?_
 rintro _ w21 ⟨E22, n20, rfl, hnn20⟩
 have E22 := grown_of_below E22
 have z_w21 := E22.size
 have hl := hl.keep0 E22
 have hb := below_step0 hb E22 hb.size
 refine op_geq (ev_hit hN rfl) rfl (fun c8 => ?_) (fun c8 => ?_)
 · -- 8T
  refine op_assign (ev_hit hN rfl) ?_
  refine reg_nil ?_
  refine hK19 _ _ ?_
  refine wp_ret ?_
  refine ret1 rfl hd (ev_hit hN rfl) ⟨_, rfl, ?_⟩
  -- path 8T
  exact ⟨hb, congrArg Value.bool (idx_t (by assumption) c8)⟩
 · -- 8F
  refine op_assign (ev_hit hN rfl) ?_
  refine reg_nil ?_
  refine hK19 _ _ ?_
  refine wp_ret ?_
  refine ret1 rfl hd (ev_hit hN rfl) ⟨_, rfl, ?_⟩
  -- path 8F
  exact ⟨hb, congrArg Value.bool (idx_f (by assumption) c8)⟩

theorem IdxF_r {L : List RD} {v : Value} {p : RD → Bool} {w : World} (hl : RdC w 0 w.heap.size 2 v L.length (L.flatMap cellsRd)) {g : Nat} {fs cs : List Value} (hokg : callOk Try.prog g = true) (hf : ∀ i, i < L.length → ∀ w1, Below w.heap.size w w1 → Ret Try.prog g (fs ++ [Value.agg #[.string (bs (L.getD i default).tab), (L.getD i default).la]] ++ cs).toArray w1 (fun v' w' => Below w1.heap.size w1 w' ∧ v' = .bool (p (L.getD i default)))) : Ret Try.prog 143 #[v, (Value.func (.func g) fs.toArray cs.toArray)] w (fun v' w' => Below w.heap.size w w' ∧ ∃ n : Int, v' = .int .i64 n ∧ (0 ≤ n ↔ L.any p = true)) := by
 have hlm := rd_len hl
 have hb := Below.refl w.heap.size w
 refine enter (N := 19) Try.func143 rfl rfl (by simp) fun a0 hN hd hA => ?_
 have s0 : a0.tmps.getD 0 undef = v := hA 0 (by simp)
 have s1 : a0.tmps.getD 1 undef = (Value.func (.func g) fs.toArray cs.toArray) := hA 1 (by simp)
 clear hA
 refine seq_any fun K23 hK23 => ?_
 refine one_reg ?_
 refine op_assign rfl ?_
 refine reg_nil ?_
 refine hK23 _ _ ?_
 refine seq_any fun K24 hK24 => ?_
 refine seq_any fun K25 hK25 => ?_
 refine one_reg ?_
 refine op_move (ev_base hN rfl s0) ?_
 refine op_len_rd Try.underlying158 (ev_hit hN rfl) hl ?_
 refine op_move rfl ?_
 refine reg_nil ?_
 refine hK25 _ _ ?_
 refine wp_block ?_
 refine loop_m (fun mz_ az_ w' => ∃ (i : Nat), mz_ = L.length - i ∧ (az_.tmps.getD 0 undef = v) ∧ (az_.tmps.getD 1 undef = (Value.func (.func g) fs.toArray cs.toArray)) ∧ (az_.tmps.getD 7 undef = (Value.int .i64 ((L.length : Nat) : Int))) ∧ (az_.tmps.getD 8 undef = (Value.int .i64 ((i : Nat) : Int))) ∧ (i ≤ L.length) ∧ ((L.take i).any p = false) ∧ (Below w.heap.size w w') ∧ (w.heap.size ≤ w'.heap.size) ∧ (RdC w' 0 w.heap.size 2 v L.length (L.flatMap cellsRd))) _ hN hd ⟨0, rfl, (sl_base hN rfl s0), (sl_base hN rfl s1), (sl_hit hN rfl), (sl_hit hN rfl), (Nat.zero_le _), rfl, hb, (Nat.le_refl _), hl⟩ ?_
 rintro _ a26 w26 hN26 hd26 ⟨i, rfl, s26_0, s26_1, s26_7, s26_8, hi, hnone, hb, zl_w26, hl⟩
 have z_w26 := hb.size
 refine seq_any fun K27 hK27 => ?_
 refine one_reg ?_
 refine op_lss (ev_base hN26 rfl s26_8) (ev_base hN26 rfl s26_7) (fun c9 => ?_) (fun c9 => ?_)
 · -- 9T
  refine reg_nil ?_
  refine hK27 _ _ ?_
  refine seq_any fun K28 hK28 => ?_
  refine wp_cond_true (ev_hit hN26 rfl) ?_
  refine wp_skip ?_
  refine hK28 _ _ ?_
  refine seq_any fun K29 hK29 => ?_
  refine wp_block ?_
  refine seq_any fun K30 hK30 => ?_
  refine one_reg ?_
  refine op_move (ev_base hN26 rfl s26_8) ?_
  refine op_assign (ev_hit hN26 rfl) ?_
  refine reg_nil ?_
  refine hK30 _ _ ?_
  refine seq_any fun K31 hK31 => ?_
  refine one_reg ?_
  refine op_move (ev_base hN26 rfl s26_1) ?_
  refine op_move (ev_base hN26 rfl s26_0) ?_
  refine op_move (ev_hit hN26 rfl) ?_
  refine op_index_rd slt158 (ev_hit hN26 rfl) hl (ev_hit hN26 rfl) (by omega) (by omega) ?_
  intro b32 o33 h0b32 h1b32 hc34
  refine op_loadA (cs := [(Value.string (bs (L.getD i default).tab)), (L.getD i default).la]) agg169 rfl (ev_hit hN26 rfl) (fun j u hu => hc34 j u (by have := (List.getElem?_eq_some_iff.1 hu).1; simpa using this) ((el_rdd (i := i) (by omega) (by omega)) j u hu)) ?_
  refine op_fnv (fs := fs) (vs := [(Value.agg #[(Value.string (bs (L.getD i default).tab)), (L.getD i default).la])]) (cs := cs) (ev_hit hN26 rfl) hokg ⟨(ev_hit hN26 rfl), trivial⟩ (hf i (by omega) _ hb) ?_
  rintro _ w35 ⟨E36, rfl⟩
  have E36 := grown_of_below E36
  have z_w35 := E36.size
  have hl := hl.keep0 E36
  have hb := below_step0 hb E36 hb.size
  rcases Bool.eq_false_or_eq_true ((p (L.getD i default))) with c16 | c16
  · -- 16T
   rw [c16]
   refine reg_nil ?_
   refine hK31 _ _ ?_
   refine wp_cond_true (ev_hit hN26 rfl) ?_
   refine seq_any fun K37 hK37 => ?_
   refine one_reg ?_
   refine op_move (ev_hit hN26 rfl) ?_
   refine op_assign (ev_hit hN26 rfl) ?_
   refine reg_nil ?_
   refine hK37 _ _ ?_
   refine wp_ret (blk_ret (then_ret (then_ret (blk_ret (then_ret ( ?_))))))
   refine ret1 rfl hd26 (ev_hit hN26 rfl) ⟨_, rfl, ?_⟩
   -- path 9T 16T
   exact ⟨hb, _, rfl, ⟨fun _ => any_hit (by omega) c16, fun _ => by omega⟩⟩
  · -- 16F
   rw [c16]
   refine reg_nil ?_
   refine hK31 _ _ ?_
   refine wp_cond_false (ev_hit hN26 rfl) ?_
   refine wp_skip ?_
   refine hK29 _ _ ?_
   refine one_reg ?_
   refine op_add (ev_base hN26 rfl s26_8) rfl (add64 (by omega)) ?_
   refine op_move (ev_hit hN26 rfl) ?_
   refine reg_nil ?_
   -- round 9T 16F
   exact loop_next _ hN26 hd26 ⟨(i + 1), rfl, (sl_base hN26 rfl s26_0), (sl_base hN26 rfl s26_1), (sl_base hN26 rfl s26_7), (sl_hit hN26 rfl).trans (congrArg (Value.int .i64) (by omega)), (by omega), (any_step (by omega) hnone c16), hb, (by omega), hl⟩ (by omega)
 · -- 9F
  refine reg_nil ?_
  refine hK27 _ _ ?_
  refine seq_any fun K38 hK38 => ?_
  refine wp_cond_false (ev_hit hN26 rfl) ?_
  refine wp_exit (then_exit (then_exit (blk_hit ?_)))
  refine hK24 _ _ ?_
  refine seq_any fun K39 hK39 => ?_
  refine one_reg ?_
  refine op_assign rfl ?_
  refine reg_nil ?_
  refine hK39 _ _ ?_
  refine wp_ret ?_
  refine ret1 rfl hd26 (ev_hit hN26 rfl) ⟨_, rfl, ?_⟩
  -- path 9F
  exact ⟨hb, _, rfl, ⟨fun h => absurd h (by decide), fun h => by rw [any_end (by omega) hnone] at h; cases h⟩⟩

theorem ContF_r {L : List RD} {v : Value} {p : RD → Bool} {w : World} (hl : RdC w 0 w.heap.size 2 v L.length (L.flatMap cellsRd)) {g : Nat} {fs cs : List Value} (hokg : callOk Try.prog g = true) (hf : ∀ i, i < L.length → ∀ w1, Below w.heap.size w w1 → Ret Try.prog g (fs ++ [Value.agg #[.string (bs (L.getD i default).tab), (L.getD i default).la]] ++ cs).toArray w1 (fun v' w' => Below w1.heap.size w1 w' ∧ v' = .bool (p (L.getD i default)))) : Ret Try.prog 126 #[v, (Value.func (.func g) fs.toArray cs.toArray)] w (fun v' w' => Below w.heap.size w w' ∧ v' = .bool (L.any p)) := by
 have hb := Below.refl w.heap.size w
 refine enter (N := 9) Try.func126 rfl rfl (by simp) fun a0 hN hd hA => ?_
 have s0 : a0.tmps.getD 0 undef = v := hA 0 (by simp)
 have s1 : a0.tmps.getD 1 undef = (Value.func (.func g) fs.toArray cs.toArray) := hA 1 (by simp)
 clear hA
 refine seq_any fun K40 hK40 => ?_
 refine one_reg ?_
 refine op_assign rfl ?_
 refine reg_nil ?_
 refine hK40 _ _ ?_
 refine seq_any fun K41 hK41 => ?_
 refine one_reg ?_
 refine op_move (ev_base hN rfl s0) ?_
 refine op_move (ev_base hN rfl s1) ?_
 refine op_fn (vs := [v, (Value.func (.func g) fs.toArray cs.toArray)]) ok143 ⟨(ev_hit hN rfl), ⟨(ev_hit hN rfl), trivial⟩⟩ (IdxF_r hl hokg hf) ?_
 rintro _ w43 ⟨E44, n42, rfl, hnn42⟩
 have E44 := grown_of_below E44
 have z_w43 := E44.size
 have hl := hl.keep0 E44
 have hb := below_step0 hb E44 hb.size
 refine op_geq (ev_hit hN rfl) rfl (fun c8 => ?_) (fun c8 => ?_)
 · -- 8T
  refine op_assign (ev_hit hN rfl) ?_
  refine reg_nil ?_
  refine hK41 _ _ ?_
  refine wp_ret ?_
  refine ret1 rfl hd (ev_hit hN rfl) ⟨_, rfl, ?_⟩
  -- path 8T
  exact ⟨hb, congrArg Value.bool (idx_t (by assumption) c8)⟩
 · -- 8F
  refine op_assign (ev_hit hN rfl) ?_
  refine reg_nil ?_
  refine hK41 _ _ ?_
  refine wp_ret ?_
  refine ret1 rfl hd (ev_hit hN rfl) ⟨_, rfl, ?_⟩
  -- path 8F
  exact ⟨hb, congrArg Value.bool (idx_f (by assumption) c8)⟩

end Go.Proofs.Ytmhdbphpmgjpcaa

/- A map's keys, sorted: the library's contracts, laid at this program. -/
namespace Go.Proofs.Ytmhdbphpmgjpcaa
open Go.Gx Go.RowKit Go.Maps Go.Sort Go.Shelf Go.Proofs
def keysA_ren : Go.Shelf.Ren := ⟨fun | 7 => 120 | 10 => 138 | n => n, fun | 23 => 119 | 26 => 3 | 3 => 155 | 28 => 203 | 0 => 0 | 27 => 202 | 33 => 40 | 4 => 4 | n => n, fun | n => n⟩
theorem keysA : Go.Proofs.SlLaysZI.n7 Try.prog keysA_ren where
  mixed := by kernel_rfl
  f7 := ⟨Try.f120.name, by decide, Try.func120.trans (congrArg some (by kernel_rfl))⟩
  f10 := ⟨Try.f138.name, by decide, Try.func138.trans (congrArg some (by kernel_rfl))⟩
  t0 := Try.underlying0
  a0 := Try.isAgg0
  z0 := Try.sizeOf0
  v0 := Try.zeroValue0
  t4 := Try.underlying4
  a4 := Try.isAgg4
  z4 := Try.sizeOf4
  v4 := Try.zeroValue4
  t23 := Try.underlying119
  a23 := Try.isAgg119
  z23 := Try.sizeOf119
  v23 := Try.zeroValue119
  t26 := Try.underlying3
  a26 := Try.isAgg3
  z26 := Try.sizeOf3
  v26 := Try.zeroValue3
  t27 := Try.underlying202
  a27 := Try.isAgg202
  z27 := Try.sizeOf202
  v27 := Try.zeroValue202
  t28 := Try.underlying203
  a28 := Try.isAgg203
  z28 := Try.sizeOf203
  v28 := Try.zeroValue203
  t33 := Try.underlying40
  a33 := Try.isAgg40
  z33 := Try.sizeOf40
  v33 := Try.zeroValue40
def sortedA_ren : Go.Shelf.Ren := ⟨fun | 6 => 119 | 8 => 136 | 9 => 137 | 11 => 149 | 13 => 148 | 12 => 150 | 23 => 162 | 24 => 163 | 14 => 164 | 15 => 165 | 16 => 166 | 17 => 167 | 18 => 168 | 19 => 169 | 20 => 170 | 21 => 171 | 22 => 172 | 25 => 178 | 26 => 174 | 27 => 175 | 28 => 179 | 29 => 180 | 30 => 139 | 31 => 182 | n => n, fun | 26 => 3 | 28 => 203 | 24 => 35 | 0 => 0 | 3 => 3 | 37 => 184 | 48 => 236 | 50 => 61 | 4 => 4 | 40 => 229 | 39 => 228 | 45 => 38 | 5 => 5 | 9 => 9 | 51 => 244 | 55 => 248 | 57 => 252 | 58 => 253 | 33 => 40 | n => n, fun | n => n⟩
theorem sortedA : Go.Proofs.SlLaysZI.n6 Try.prog sortedA_ren where
  mixed := by kernel_rfl
  f6 := ⟨Try.f119.name, by decide, Try.func119.trans (congrArg some (by kernel_rfl))⟩
  f8 := ⟨Try.f136.name, by decide, Try.func136.trans (congrArg some (by kernel_rfl))⟩
  f11 := ⟨Try.f149.name, by decide, Try.func149.trans (congrArg some (by kernel_rfl))⟩
  t0 := Try.underlying0
  a0 := Try.isAgg0
  z0 := Try.sizeOf0
  v0 := Try.zeroValue0
  t24 := Try.underlying35
  a24 := Try.isAgg35
  z24 := Try.sizeOf35
  v24 := Try.zeroValue35
  t26 := Try.underlying3
  a26 := Try.isAgg3
  z26 := Try.sizeOf3
  v26 := Try.zeroValue3
  t28 := Try.underlying203
  a28 := Try.isAgg203
  z28 := Try.sizeOf203
  v28 := Try.zeroValue203
  i26 := by kernel_rfl
def sortA_ren : Go.Shelf.Ren := ⟨fun | 5 => 137 | 8 => 148 | 7 => 150 | 19 => 162 | 20 => 163 | 10 => 164 | 11 => 165 | 12 => 166 | 13 => 167 | 14 => 168 | 15 => 169 | 16 => 170 | 17 => 171 | 18 => 172 | 30 => 178 | 31 => 174 | 32 => 175 | 33 => 179 | 34 => 180 | 35 => 139 | 40 => 182 | n => n, fun | 23 => 35 | 25 => 3 | 3 => 3 | 32 => 184 | 22 => 35 | 0 => 0 | 44 => 236 | 46 => 61 | 4 => 4 | 36 => 229 | 35 => 228 | 41 => 38 | 5 => 5 | 9 => 9 | 53 => 244 | 57 => 248 | 63 => 252 | 64 => 253 | n => n, fun | n => n⟩
theorem sortA : Go.Proofs.SlLaysM.n5 Try.prog sortA_ren where
  mixed := by kernel_rfl
  f5 := ⟨Try.f137.name, by decide, Try.func137.trans (congrArg some (by kernel_rfl))⟩
  f7 := ⟨Try.f150.name, by decide, Try.func150.trans (congrArg some (by kernel_rfl))⟩
  f8 := Try.func148.trans (congrArg some (by kernel_rfl))
  f10 := ⟨Try.f164.name, by decide, Try.func164.trans (congrArg some (by kernel_rfl))⟩
  f11 := ⟨Try.f165.name, by decide, Try.func165.trans (congrArg some (by kernel_rfl))⟩
  f12 := ⟨Try.f166.name, by decide, Try.func166.trans (congrArg some (by kernel_rfl))⟩
  f13 := ⟨Try.f167.name, by decide, Try.func167.trans (congrArg some (by kernel_rfl))⟩
  f14 := ⟨Try.f168.name, by decide, Try.func168.trans (congrArg some (by kernel_rfl))⟩
  f15 := ⟨Try.f169.name, by decide, Try.func169.trans (congrArg some (by kernel_rfl))⟩
  f16 := ⟨Try.f170.name, by decide, Try.func170.trans (congrArg some (by kernel_rfl))⟩
  f17 := ⟨Try.f171.name, by decide, Try.func171.trans (congrArg some (by kernel_rfl))⟩
  f18 := ⟨Try.f172.name, by decide, Try.func172.trans (congrArg some (by kernel_rfl))⟩
  f19 := Try.func162.trans (congrArg some (by kernel_rfl))
  f20 := Try.func163.trans (congrArg some (by kernel_rfl))
  f30 := ⟨Try.f178.name, by decide, Try.func178.trans (congrArg some (by kernel_rfl))⟩
  f31 := Try.func174.trans (congrArg some (by kernel_rfl))
  f32 := Try.func175.trans (congrArg some (by kernel_rfl))
  f33 := ⟨Try.f179.name, by decide, Try.func179.trans (congrArg some (by kernel_rfl))⟩
  f34 := ⟨Try.f180.name, by decide, Try.func180.trans (congrArg some (by kernel_rfl))⟩
  f35 := ⟨Try.f139.name, by decide, Try.func139.trans (congrArg some (by kernel_rfl))⟩
  f40 := ⟨Try.f182.name, by decide, Try.func182.trans (congrArg some (by kernel_rfl))⟩
  t0 := Try.underlying0
  a0 := Try.isAgg0
  z0 := Try.sizeOf0
  v0 := Try.zeroValue0
  t3 := Try.underlying3
  a3 := Try.isAgg3
  z3 := Try.sizeOf3
  v3 := Try.zeroValue3
  t4 := Try.underlying4
  a4 := Try.isAgg4
  z4 := Try.sizeOf4
  v4 := Try.zeroValue4
  t5 := Try.underlying5
  a5 := Try.isAgg5
  z5 := Try.sizeOf5
  v5 := Try.zeroValue5
  t9 := Try.underlying9
  a9 := Try.isAgg9
  z9 := Try.sizeOf9
  v9 := Try.zeroValue9
  t22 := Try.underlying35
  a22 := Try.isAgg35
  z22 := Try.sizeOf35
  v22 := Try.zeroValue35
  t23 := Try.underlying35
  a23 := Try.isAgg35
  z23 := Try.sizeOf35
  v23 := Try.zeroValue35
  t25 := Try.underlying3
  a25 := Try.isAgg3
  z25 := Try.sizeOf3
  v25 := Try.zeroValue3
  t32 := Try.underlying184
  a32 := Try.isAgg184
  z32 := Try.sizeOf184
  v32 := Try.zeroValue184
  t35 := Try.underlying228
  a35 := Try.isAgg228
  z35 := Try.sizeOf228
  v35 := Try.zeroValue228
  t36 := Try.underlying229
  a36 := Try.isAgg229
  z36 := Try.sizeOf229
  v36 := Try.zeroValue229
  t41 := Try.underlying38
  a41 := Try.isAgg38
  z41 := Try.sizeOf38
  v41 := Try.zeroValue38
  t44 := Try.underlying236
  a44 := Try.isAgg236
  z44 := Try.sizeOf236
  v44 := Try.zeroValue236
  t46 := Try.underlying61
  a46 := Try.isAgg61
  z46 := Try.sizeOf61
  v46 := Try.zeroValue61
  t53 := Try.underlying244
  a53 := Try.isAgg244
  z53 := Try.sizeOf244
  v53 := Try.zeroValue244
  t57 := Try.underlying248
  a57 := Try.isAgg248
  z57 := Try.sizeOf248
  v57 := Try.zeroValue248
  t63 := Try.underlying252
  a63 := Try.isAgg252
  z63 := Try.sizeOf252
  v63 := Try.zeroValue252
  t64 := Try.underlying253
  a64 := Try.isAgg253
  z64 := Try.sizeOf253
  v64 := Try.zeroValue253

theorem sortsA (m : Nat) : AnyZI.SortsIn Try.prog sortedA_ren Fence.wide m :=
  ⟨fun blk off cap ss W hH hblk hsz => callsIn_wide.2 (AnyM.slices_Sort_int sortA blk off cap ss W hH hblk hsz),
   fun p cap W => callsIn_wide.2 (AnyM.slices_Sort_int_none sortA p cap W)⟩
theorem own_of_row {w : World} {base e sz n : Nat} {v : Value} {cs : List Value} (h : w.ownsRow base e sz v n cs) : Own w base e sz v n cs := by
  obtain ⟨hl, h⟩ := h
  refine ⟨hl, ?_⟩
  rcases h with h | ⟨g, cap, cur, rfl, hb, hg, h1, h2, h3, h4⟩
  · exact .inl h
  · exact .inr ⟨g, 0, cap, cur, (0, 0), rfl, hb, hg, fun j _ hj => by omega, h1, h2, by omega, by simpa using h4⟩
def anyR (_ : Value) : Option (DataW Nat × List MemPlace) := some (.lit (.bool true), [])
def keysUp (es : List (Int × Nat)) : List Int := (es.map Prod.fst).mergeSort (fun x y => decide (x ≤ y))
theorem map_own {w : World} {m : Nat} {es : List (Int × Nat)} {pv : Nat → Value} (hM : MapC (Value.int .i64) pv w m es) (hk : ∀ p ∈ es, (Lit.int .i64 p.1).wf = true) (hn : es.length ≤ 1000000) :
    ∃ D0 : DataW Nat, w.ownsMap Try.prog 3 anyR m es.length D0 ∧ Maps.size D0 = es.length ∧ (intKeys D0).Perm (es.map Prod.fst) := by
  obtain ⟨arr, clock, hb, hs, he⟩ := hM
  have hlen : arr.size = es.length := by have := congrArg List.length he; simpa using this
  have hkey : ∀ x ∈ arr.toList, ∃ p ∈ es, x.key = Value.int .i64 p.1 := by
    intro x hx
    have h1 := congrArg (List.map Prod.fst) he
    simp only [List.map_map] at h1
    have h2 : x.key ∈ es.map ((Prod.fst : Value × Value → Value) ∘ fun p => (Value.int .i64 p.1, pv p.2)) := by
      rw [← h1]; exact List.mem_map.2 ⟨x, hx, rfl⟩
    obtain ⟨p, hp, he2⟩ := List.mem_map.1 h2
    exact ⟨p, hp, he2.symm⟩
  have hrd : ∀ x ∈ arr.toList, ∀ a : Int, x.key = Value.int .i64 a → WideElems.rd Try.prog 3 anyR x = some (.int .i64 a, .lit (.bool true)) := by
    intro x hx a ha
    obtain ⟨p, hp, hp2⟩ := hkey x hx
    have : a = p.1 := by rw [ha] at hp2; injection hp2
    subst this
    have h3 : keyOf Try.prog 3 x.key = some (.int .i64 p.1) := by rw [ha]; exact keyOf_int_mk Try.underlying3 (hk p hp)
    unfold WideElems.rd anyR
    rw [h3]; rfl
  have F : WideElems.Fit Try.prog 3 anyR arr clock := ⟨by rw [hlen]; unfold maxLen; omega, hs, fun x hx => by
    obtain ⟨p, hp, hp2⟩ := hkey x hx
    exact ⟨_, hrd x hx _ hp2⟩⟩
  refine ⟨_, ⟨arr, clock, hb, F, by omega, rfl⟩, ?_, ?_⟩
  · rw [Maps.size_eq, length_sorted]; simp [hlen]
  · show (((arr.toList.map (WideElems.rg Try.prog 3 anyR)).foldr DataW.insert []).map fun (p : Lit × DataW Nat) => Go.intOf p.1).Perm _
    refine ((Go.WideShapes.sorted_perm _).map _).trans ?_
    rw [List.map_map]
    have : arr.toList.map ((fun p : Lit × DataW Nat => Go.intOf p.1) ∘ WideElems.rg Try.prog 3 anyR) = es.map Prod.fst := by
      have h1 := congrArg (List.map Prod.fst) he
      simp only [List.map_map] at h1
      have h4 : (arr.toList.map fun e => e.key) = (es.map Prod.fst).map (Value.int .i64) := by rw [List.map_map]; exact h1
      have h5 : arr.toList.map ((fun p : Lit × DataW Nat => Go.intOf p.1) ∘ WideElems.rg Try.prog 3 anyR) = arr.toList.map fun e => match e.key with | .int _ a => a | _ => 0 := by
        apply List.map_congr_left
        intro x hx
        obtain ⟨p, hp, hp2⟩ := hkey x hx
        simp only [Function.comp]
        rw [WideElems.rg_of (hrd x hx _ hp2), hp2]; rfl
      rw [h5]
      have h6 : (arr.toList.map fun e => match e.key with | .int _ a => a | _ => 0) = (arr.toList.map fun e => e.key).map fun v => match v with | .int _ a => a | _ => 0 := by rw [List.map_map]; rfl
      rw [h6, h4, List.map_map]
      apply List.ext_getElem?
      intro i
      simp only [List.getElem?_map]
      cases (es[i]?) <;> rfl
    rw [this]
/-- slices.Sorted of what maps.Keys handed back. -/
theorem sortedKeys_ret {w : World} {m b t : Nat} {es : List (Int × Nat)} {pv : Nat → Value} (hM : MapC (Value.int .i64) pv w m es) (hk : ∀ p ∈ es, (Lit.int .i64 p.1).wf = true) (hn : es.length ≤ 1000000) (hB : Bx w b t [.map (some m)]) :
    Ret Try.prog 119 #[.func (.func 138) #[] #[ptr b 0]] w (fun v' w' => Below w.heap.size w w' ∧ Own w' w.heap.size 3 1 v' (keysUp es).length ((keysUp es).map (Value.int .i64))) := by
  obtain ⟨D0, hown, hsz, hp⟩ := map_own hM hk hn
  refine (callsIn_wide (n := 5)).1 ?_
  have hseq : SeqGives Fence.wide 2 Try.prog 138 #[.pointer (some ⟨b, 0, none⟩)] encZ (fun ss => ss.Perm (intKeys D0)) (Maps.size D0) w :=
    AnyZI.keys_gives (ρ := keysA_ren) { keysA with } Fence.wide _ trivial rfl (by omega) b m es.length D0 _ hB.lt (hB.cell rfl) hown
  have cS := AnyZI.sorted_in sortedA Fence.wide 5 trivial trivial trivial trivial rfl (by omega) (sortsA _) (enters_of Try.func137 (by kernel_rfl) rfl) 138 #[.pointer (some ⟨b, 0, none⟩)] trivial (enters_of Try.func138 (by kernel_rfl) rfl) _ _ (by rw [hsz]; unfold maxLen; omega) (by rw [hsz]; omega) _ hseq
  change CallsIn _ _ Try.prog 119 _ _ _ at cS
  refine cS.mono ?_
  rintro e w' ⟨v, ss, rfl, hS, hrow, hnil, hb⟩
  refine ⟨v, rfl, hb, ?_⟩
  have e1 : ss.mergeSort (fun x y => decide (x ≤ y)) = keysUp es := mergeSort_of_perm_i (hS.trans hp)
  have e2 : ss.length = (keysUp es).length := by rw [← e1, List.length_mergeSort]
  have := own_of_row hrow
  rw [e1, e2] at this
  exact this
end Go.Proofs.Ytmhdbphpmgjpcaa

/- Locks, plainly: who stands in whose way, what is added; one transaction's parts, and what there is behind its turn. -/
namespace Go.Proofs.Ytmhdbphpmgjpcaa
open Go.Gx
theorem takeT {α : Type} {l : List α} {i : Nat} {d : α} (h : i < l.length) : l.take (i + 1) = l.take i ++ [l.getD i d] := by simp [List.getD_eq_getElem?_getD, h]
theorem eq_u16 {a b : UInt16} (h : ((a.toNat : Nat) : Int) = ((b.toNat : Nat) : Int)) : a = b := UInt16.toNat_inj.1 (by omega)
theorem sub_of_hm {v v' : Value} {m n : Nat} (hm : v'.ownBlock = v.ownBlock ∨ ∀ k, v'.ownBlock = some k → n ≤ k) (hle : m ≤ n) : ∀ y, Bl v' y → Bl v y ∨ m ≤ y := fun y hy => hm.elim (fun e => .inl (e.symm.trans hy)) (fun h => .inr (Nat.le_trans hle (h y hy)))
theorem filtT {α : Type} {l : List α} {i : Nat} {d : α} {p : α → Bool} (h : i < l.length) (hp : p (l.getD i d) = true) : (l.take (i + 1)).filter p = (l.take i).filter p ++ [l.getD i d] := by
  rw [takeT (d := d) h, List.filter_append]
  simp only [List.filter_cons, hp, if_true, List.filter_nil]
theorem filtF {α : Type} {l : List α} {i : Nat} {d : α} {p : α → Bool} (h : i < l.length) (hp : p (l.getD i d) = false) : (l.take (i + 1)).filter p = (l.take i).filter p := by
  rw [takeT (d := d) h, List.filter_append]
  simp only [List.filter_cons, hp, List.filter_nil, Bool.false_eq_true, if_false, List.append_nil]
theorem filt_le {α : Type} {l : List α} {i : Nat} {p : α → Bool} (h : i ≤ l.length) : ((l.take i).filter p).length ≤ i := Nat.le_trans (List.length_filter_le _ _) (by rw [List.length_take]; omega)
def writB (W : List (List UInt8)) (x : List UInt8) : Bool := W.any fun y => decide (y = x)
def covB (R : List (List UInt8 × List UInt16)) (x : List UInt8) (l : List UInt16) : Bool := R.any fun r => decide (r.1 = x) && flowsL l r.2
theorem covB_map {D : List RD} {x : List UInt8} {l : List UInt16} : (D.any fun r => decide (r.tab = x) && flowsL l r.lab) = covB (D.map rOf) x l := by
  unfold covB; rw [List.any_map]; rfl
def standB (t : TX) (reads : List (List UInt8)) (x : List UInt8) (l : List UInt16) : Bool := reads.any (writB t.writes) || (decide (x ≠ []) && (writB t.writes x || covB t.reads x l))
def addR (R : List (List UInt8 × List UInt16)) (a : List UInt8 × List UInt16) : List (List UInt8 × List UInt16) := if (R.any fun r => decide (a.1 = r.1) && decide (a.2 = r.2)) = true then R else R ++ [a]
def addW (W : List (List UInt8)) (x : List UInt8) : List (List UInt8) := if (W.any fun y => decide (x = y)) = true then W else W ++ [x]
def sortK (M : TM) : List Int := (M.map Prod.fst).mergeSort (fun x y => decide (x ≤ y))
def txAt (M : TM) (x : Int) : TX := (mget M x).getD default
def othersL (M : TM) (n : Int) (q : List UInt16 → Bool) : List Int := (sortK M).filter fun i => decide (i ≠ n) && q (txAt M i).label
/-- What an asking comes to. -/
def stB (M : TM) (T : TX) (Rs : List (List UInt8)) (x : List UInt8) (i : Int) : Bool := standB (txAt M i) Rs x T.label
def dieB (M : TM) (T : TX) (Rs : List (List UInt8)) (x : List UInt8) (i : Int) : Bool := stB M T Rs x i && decide ((txAt M i).stamp ≤ T.stamp)
def sameQ (T : TX) (l : List UInt16) : Bool := decide (l = T.label)
def outW (p : Int → Bool) (L : List Int) : Int := if L.any p = true then 2 else 1
def askO (M : TM) (n : Int) (T : TX) (Rs : List (List UInt8)) (x : List UInt8) : Int := if (othersL M n (sameQ T)).any (dieB M T Rs x) = true then 3 else outW (stB M T Rs x) (othersL M n (sameQ T))
def gotR (T : TX) (Rs : List (List UInt8)) : List (List UInt8 × List UInt16) := Rs.foldl (fun R s => addR R (s, T.label)) T.reads
def gotW (T : TX) (x : List UInt8) : List (List UInt8) := if x = [] then T.writes else addW T.writes x
def askT (T : TX) (Rs : List (List UInt8)) (x : List UInt8) (o : Int) : TX := if o = 1 then { T with reads := gotR T Rs, writes := gotW T x } else T
theorem outW_f {p : Int → Bool} {L : List Int} {i : Nat} (h : i < L.length) (hp : p (L.getD i 0) = false) : outW p (L.take (i + 1)) = outW p (L.take i) := by
  unfold outW; rw [takeT (d := 0) h, List.any_append, List.any_cons, hp]; simp
theorem outW_t {p : Int → Bool} {L : List Int} {i : Nat} (h : i < L.length) (hp : p (L.getD i 0) = true) : outW p (L.take (i + 1)) = 2 := by
  unfold outW; rw [takeT (d := 0) h, List.any_append, List.any_cons, hp]; simp
theorem gotR_step {T : TX} {Rs : List (List UInt8)} {i : Nat} (h : i < Rs.length) : gotR T (Rs.take (i + 1)) = addR (gotR T (Rs.take i)) (Rs.getD i [], T.label) := by
  unfold gotR; rw [takeT (d := []) h, List.foldl_append]; rfl
theorem addR_len {R : List (List UInt8 × List UInt16)} {a : List UInt8 × List UInt16} : (addR R a).length ≤ R.length + 1 := by unfold addR; split <;> simp
theorem addR_ok {R : List (List UInt8 × List UInt16)} {a : List UInt8 × List UInt16} (h : ∀ r ∈ R, r.2.length ≤ 8) (ha : a.2.length ≤ 8) : ∀ r ∈ addR R a, r.2.length ≤ 8 := fun r hr => by
  unfold addR at hr
  split at hr
  · exact h r hr
  · rcases List.mem_append.1 hr with q | q
    · exact h r q
    · obtain rfl : r = a := by simpa using q
      exact ha
theorem gotR_ok {T : TX} (hl : T.label.length ≤ 8) : ∀ (Rs : List (List UInt8)) (T' : TX), T'.label = T.label → (∀ r ∈ T'.reads, r.2.length ≤ 8) → (∀ r ∈ gotR T' Rs, r.2.length ≤ 8) ∧ (gotR T' Rs).length ≤ T'.reads.length + Rs.length
  | [], _, _, h => ⟨h, by simp [gotR]⟩
  | a :: Rs, T', he, h => by
    have h2 := gotR_ok hl Rs { T' with reads := addR T'.reads (a, T'.label) } he (addR_ok h (by rw [he]; exact hl))
    have h3 : (addR T'.reads (a, T'.label)).length ≤ T'.reads.length + 1 := addR_len
    refine ⟨h2.1, Nat.le_trans h2.2 ?_⟩
    show (addR T'.reads (a, T'.label)).length + Rs.length ≤ T'.reads.length + (Rs.length + 1)
    omega
def TOk (t : TX) : Prop := t.label.length ≤ 8 ∧ ∀ r ∈ t.reads, r.2.length ≤ 8
def MOk (M : TM) : Prop := M.length ≤ 1000 ∧ ∀ a ∈ M, (Lit.int .i64 a.1).wf = true ∧ TOk a.2
/-- A transaction as an object. -/
def TxR (w : World) (base p : Nat) (t : TX) (F : Nat → Prop) : Prop := ∃ c : TC, c.p = p ∧ TxAt w base t c ∧ ∀ x, F x ↔ PartT c x
section
variable {w w' : World} {base k m b tt e sz n p : Nat} {M : TM} {C : List TC} {F F0 G FT : Nat → Prop} {cs : List Value} {v mv la rv wv : Value} {T T' : TX} {c c' : TC} {D : List RD} {x i : Int}
theorem TxR.lt (h : TxR w base p T F) : ∀ x, F x → base ≤ x ∧ x < w.heap.size := by
  obtain ⟨c, _, h, hF⟩ := h
  exact fun x hx => h.lt x ((hF x).1 hx)
theorem TxR.keepG (h : TxR w base p T F) (E : Gr w w' G) (hd : Dj F G) : TxR w' base p T F := by
  obtain ⟨c, hp, h, hF⟩ := h
  exact ⟨c, hp, h.keepG E fun x hx => hd x ((hF x).2 hx), hF⟩
theorem TxR.notBx (h : TxR w base p T F) (B : Bx w b tt cs) (h1 : tt ≠ 164) (h2 : tt ≠ 46) (h3 : tt ≠ 169) (h4 : tt ≠ 9) : ¬ F b := by
  obtain ⟨c, hp, h, hF⟩ := h
  exact fun hf => h.notBx B h1 h2 h3 h4 ((hF b).1 hf)
theorem TxR.notOwn {base2 : Nat} (h : TxR w base p T F) (O : Own w base2 e sz v n cs) (h1 : e ≠ 164) (h2 : e ≠ 46) (h3 : e ≠ 169) (h4 : e ≠ 9) : Dj (Bl v) F := by
  obtain ⟨c, hp, h, hF⟩ := h
  exact fun x hx hf => h.notOwn O h1 h2 h3 h4 x hx ((hF x).1 hf)
theorem TxR.notMap {K V : Type} {kv : K → Value} {vv : V → Value} {es : List (K × V)} (h : TxR w base p T F) (Mp : MapC kv vv w m es) : ¬ F m := by
  obtain ⟨c, hp, h, hF⟩ := h
  exact fun hf => h.notMap Mp ((hF m).1 hf)
/-- A transaction's parts. -/
theorem TxR.parts (h : TxR w base p T F) : ∃ (la rv wv : Value) (D : List RD), base ≤ p ∧ Bx w p 164 [la, .int .u64 T.stamp, rv, wv, .bool T.doomed] ∧ Own w base 46 1 la T.label.length (T.label.map u16v) ∧ Own w base 169 2 rv D.length (D.flatMap cellsRd) ∧
    (∀ x9 ∈ D.map rdL, Own w base 46 1 x9.1 x9.2.length (x9.2.map u16v)) ∧ Own w base 9 1 wv T.writes.length (T.writes.map sv) ∧ D.map rOf = T.reads ∧ (∀ x, F x ↔ x = p ∨ Bl la x ∨ Bl rv x ∨ Bl wv x ∨ ∃ r ∈ D, Bl r.la x) := by
  obtain ⟨⟨q, la, rv, wv, D⟩, rfl, ⟨h0, h1, h2, h3, h4, h5, h6⟩, hF⟩ := h
  exact ⟨la, rv, wv, D, h0, h1, h2, h3, h4, h5, h6, hF⟩
theorem TxR.mk' (h0 : base ≤ p) (h1 : Bx w p 164 [la, .int .u64 T.stamp, rv, wv, .bool T.doomed]) (h2 : Own w base 46 1 la T.label.length (T.label.map u16v)) (h3 : Own w base 169 2 rv D.length (D.flatMap cellsRd))
    (h4 : ∀ x9 ∈ D.map rdL, Own w base 46 1 x9.1 x9.2.length (x9.2.map u16v)) (h5 : Own w base 9 1 wv T.writes.length (T.writes.map sv)) (h6 : D.map rOf = T.reads) : TxR w base p T (fun x => x = p ∨ Bl la x ∨ Bl rv x ∨ Bl wv x ∨ ∃ r ∈ D, Bl r.la x) :=
  ⟨⟨p, la, rv, wv, D⟩, rfl, ⟨h0, h1, h2, h3, h4, h5, h6⟩, fun _ => Iff.rfl⟩
theorem TOk.rd (h : TOk T) (hD : D.map rOf = T.reads) : ∀ r ∈ D, r.lab.length ≤ 8 := fun r hr => h.2 (rOf r) (by rw [← hD]; exact List.mem_map.2 ⟨r, hr, rfl⟩)
/-- The transaction of a key. -/
theorem LkAll.key (h : LkAll w base M C F) (hx : mget M x = some T) : ∃ (j p : Nat) (la rv wv : Value) (D : List RD), j < M.length ∧ mlook M x = some (j, T) ∧ M.getD j default = (x, T) ∧ C.getD j default = ⟨p, la, rv, wv, D⟩ ∧ mget (esOf M C) x = some p ∧ base ≤ p ∧
    Bx w p 164 [la, .int .u64 T.stamp, rv, wv, .bool T.doomed] ∧ Own w base 46 1 la T.label.length (T.label.map u16v) ∧ Own w base 169 2 rv D.length (D.flatMap cellsRd) ∧ (∀ x9 ∈ D.map rdL, Own w base 46 1 x9.1 x9.2.length (x9.2.map u16v)) ∧ Own w base 9 1 wv T.writes.length (T.writes.map sv) ∧ D.map rOf = T.reads := by
  obtain ⟨h1, h2, h3, h4⟩ := h
  unfold mget at hx
  obtain ⟨⟨j, t⟩, hq, rfl⟩ := Option.map_eq_some_iff.1 hx
  have hj := mlook_some hq
  obtain ⟨hjl, hjv⟩ := List.getElem?_eq_some_iff.1 hj
  have hM : M.getD j default = (x, t) := by simp [List.getD_eq_getElem?_getD, hj]
  have hT := h2 j hjl
  obtain ⟨⟨p, la, rv, wv, D⟩, hC⟩ : ∃ c, C.getD j default = c := ⟨_, rfl⟩
  rw [hC, hM] at hT
  obtain ⟨a0, a1, a2, a3, a4, a5, a6⟩ := hT
  refine ⟨j, p, la, rv, wv, D, hjl, hq, hM, hC, ?_, a0, a1, a2, a3, a4, a5, a6⟩
  unfold mget
  rw [esOf_look h1, hq]
  simp only [Option.map_some]
  rw [hC]
theorem mget_key {es : List (Int × TX)} (h : x ∈ es.map Prod.fst) : ∃ T, mget es x = some T := by
  cases hq : mget es x with
  | none => exact absurd h (mget_none.1 hq)
  | some T => exact ⟨T, rfl⟩
theorem keysUp_eq (h : C.length = M.length) : keysUp (esOf M C) = sortK M := by unfold keysUp sortK; rw [esOf_keys h]
theorem es_wf (h : C.length = M.length) (hM : MOk M) : ∀ a ∈ esOf M C, (Lit.int .i64 a.1).wf = true := fun a ha => by
  have h1 : a.1 ∈ (esOf M C).map Prod.fst := List.mem_map.2 ⟨a, ha, rfl⟩
  rw [esOf_keys h] at h1
  obtain ⟨b, hb, he⟩ := List.mem_map.1 h1
  rw [← he]; exact (hM.2 b hb).1
theorem sortK_mem : x ∈ sortK M ↔ x ∈ M.map Prod.fst := by unfold sortK; exact List.mem_mergeSort
theorem sortK_len : (sortK M).length = M.length := by unfold sortK; rw [List.length_mergeSort, List.length_map]
theorem others_mem {n : Int} {q : List UInt16 → Bool} (h : x ∈ othersL M n q) : x ∈ M.map Prod.fst ∧ x ≠ n ∧ q (txAt M x).label = true := by
  unfold othersL at h
  rw [List.mem_filter, Bool.and_eq_true, decide_eq_true_eq, sortK_mem] at h
  exact h
theorem others_len {n : Int} {q : List UInt16 → Bool} : (othersL M n q).length ≤ M.length := by
  unfold othersL; exact Nat.le_trans (List.length_filter_le _ _) (by rw [sortK_len]; exact Nat.le_refl _)
/-- One transaction's parts, and what there is behind its turn. -/
theorem LocksR.hit {nn : Int} (h : LocksR w base k M F) (hg : mget M nn = some T) : ∃ m C F0 p FT, Bx w k 121 [.map (some m)] ∧ MapC (Value.int .i64) pv w m (esOf M C) ∧ LkAll w base M C F0 ∧ mget (esOf M C) nn = some p ∧ TxR w base p T FT ∧
    (∀ x, FT x → F x) ∧ (∀ w' T' FT', Gr w w' FT → TxR w' base p T' FT' → NewF w.heap.size FT FT' → Gr w w' F ∧ ∃ F2, LocksR w' base k (mput M nn T') F2 ∧ NewF w.heap.size F F2) := by
  obtain ⟨mv, C, F0, hk, hx, hM, hA, hF⟩ := h
  obtain ⟨j, p, la, rv, wv, D, hj, hl, hMj, hCj, hes, b0, b1, b2, b3, b4, b5, b6⟩ := LkAll.key hA hg
  rcases hM with ⟨rfl, he⟩ | ⟨m, rfl, hm, hM⟩
  · rw [he] at hes; cases hes
  · have hPC : PartT (C.getD j default) = PartT ⟨p, la, rv, wv, D⟩ := by rw [hCj]
    have hT0 : TxAt w base T ⟨p, la, rv, wv, D⟩ := ⟨b0, b1, b2, b3, b4, b5, b6⟩
    have hin : ∀ x, PartT ⟨p, la, rv, wv, D⟩ x → F x := fun x hx => (hF x).2 (.inr (.inr ((hA.2.2.2 x).2 ⟨j, hj, by rw [hCj]; exact hx⟩)))
    refine ⟨m, C, F0, p, PartT ⟨p, la, rv, wv, D⟩, hx, hM, hA, hes, ⟨_, rfl, hT0, fun _ => Iff.rfl⟩, hin, fun w' T' FT' E hT' hN => ?_⟩
    obtain ⟨c', hp', hT', hF'⟩ := hT'
    have hN' : ∀ x, PartT c' x → PartT (C.getD j default) x ∨ w.heap.size ≤ x := fun x hx => by rw [hPC]; exact hN x ((hF' x).2 hx)
    obtain ⟨E2, F2, hA2, hN2⟩ := hA.turn hj (n := nn) (by rw [hPC]; exact E) hT' hN'
    have hput : mput M nn T' = M.set j (nn, T') := by unfold mput; rw [hl]
    refine ⟨E2.mono fun x _ hx => (hF x).2 (.inr (.inr hx)), _, ⟨.map (some m), C.set j c', F2, hk, hx.keepG E (hT0.notBx hx (by decide) (by decide) (by decide) (by decide)), .inr ⟨m, rfl, hm, ?_⟩, by rw [hput]; exact hA2, fun x => Iff.rfl⟩, fun x hx => ?_⟩
    · rw [hput, esOf_set hA.1 (by rw [hp', hCj]) (fun _ => by rw [hMj])]
      exact hM.keepG E (hT0.notMap hM)
    · rcases hx with rfl | hx | hx
      · exact .inl ((hF x).2 (.inl rfl))
      · exact .inl ((hF x).2 (.inr (.inl hx)))
      · exact (hN2 x hx).imp (fun q => (hF x).2 (.inr (.inr q))) id
end
end Go.Proofs.Ytmhdbphpmgjpcaa

/- Walks, written by a program: what each function of the translation hands back. -/
namespace Go.Proofs.Ytmhdbphpmgjpcaa
open Go.Gx Go.RowKit
attribute [local irreducible] wpList wpStill Code.wp Calls
open Go.Sort (bitsLen)
theorem indexW_ret (l : Lb) (x : UInt16) (v : Value) (w : World) (hz : l.length ≤ 1000000000000) (hl : RdC w 0 w.heap.size 1 v l.length (l.map u16v)) : Ret Try.prog 152 #[v, (Value.int .u16 (x.toNat : Int))] w (fun v' w' => (∃ z : Int, v' = .int .i64 z ∧ decide (0 ≤ z) = inL x l) ∧ w' = w) := by
 have hb := Below.refl w.heap.size w
 refine enter (N := 19) Try.func152 rfl rfl (by simp) fun a0 hN hd hA => ?_
 have s0 : a0.tmps.getD 0 undef = v := hA 0 (by simp)
 have s1 : a0.tmps.getD 1 undef = (Value.int .u16 (x.toNat : Int)) := hA 1 (by simp)
 clear hA
 refine seq_any fun K1 hK1 => ?_
 refine one_reg ?_
 refine op_assign rfl ?_
 refine reg_nil ?_
 refine hK1 _ _ ?_
 refine seq_any fun K2 hK2 => ?_
 refine seq_any fun K3 hK3 => ?_
 refine one_reg ?_
 refine op_move (ev_base hN rfl s0) ?_
 refine op_len_rd Try.underlying54 (ev_hit hN rfl) hl ?_
 refine op_move rfl ?_
 refine reg_nil ?_
 refine hK3 _ _ ?_
 refine wp_block ?_
 refine loop_m (fun mz_ az_ w' => ∃ (i : Nat), mz_ = l.length - i ∧ (az_.tmps.getD 0 undef = v) ∧ (az_.tmps.getD 1 undef = (Value.int .u16 (x.toNat : Int))) ∧ (az_.tmps.getD 7 undef = (Value.int .i64 ((l.length : Nat) : Int))) ∧ (az_.tmps.getD 8 undef = (Value.int .i64 ((i : Nat) : Int))) ∧ (i ≤ l.length) ∧ (∀ j9, j9 < i → l.getD j9 0 ≠ x) ∧ w = w') _ hN hd ⟨0, rfl, (sl_base hN rfl s0), (sl_base hN rfl s1), (sl_hit hN rfl), (sl_hit hN rfl).trans (congrArg (Value.int .i64) (by omega)), Nat.zero_le _, (fun j9 h9 => absurd h9 (Nat.not_lt_zero _)), rfl⟩ ?_
 rintro _ a4 _ hN4 hd4 ⟨i, rfl, s4_0, s4_1, s4_7, s4_8, hi, hno, rfl⟩
 refine seq_any fun K5 hK5 => ?_
 refine one_reg ?_
 refine op_lss (ev_base hN4 rfl s4_8) (ev_base hN4 rfl s4_7) (fun c9 => ?_) (fun c9 => ?_)
 · -- 9T
  refine reg_nil ?_
  refine hK5 _ _ ?_
  refine seq_any fun K6 hK6 => ?_
  refine wp_cond_true (ev_hit hN4 rfl) ?_
  refine wp_skip ?_
  refine hK6 _ _ ?_
  refine seq_any fun K7 hK7 => ?_
  refine wp_block ?_
  refine seq_any fun K8 hK8 => ?_
  refine one_reg ?_
  refine op_move (ev_base hN4 rfl s4_8) ?_
  refine op_assign (ev_hit hN4 rfl) ?_
  refine reg_nil ?_
  refine hK8 _ _ ?_
  refine seq_any fun K9 hK9 => ?_
  refine one_reg ?_
  refine op_move (ev_base hN4 rfl s4_1) ?_
  refine op_move (ev_base hN4 rfl s4_0) ?_
  refine op_move (ev_hit hN4 rfl) ?_
  refine op_index_rd slt54 (ev_hit hN4 rfl) hl (ev_hit hN4 rfl) (by omega) (by omega) ?_
  intro b10 o11 h0b10 h1b10 hc12
  refine op_load1 (v := (Value.int .u16 ((l.getD i 0).toNat : Int))) one46 (ev_hit hN4 rfl) (by have := hc12 0 (Value.int .u16 ((l.getD i 0).toNat : Int)) (by decide) (el_u16 (i := i) (by omega) (by omega)); simpa using this) ?_
  refine op_eql (ev_hit hN4 rfl) (ev_hit hN4 rfl) (fun c16 => ?_) (fun c16 => ?_)
  · -- 16T
   refine reg_nil ?_
   refine hK9 _ _ ?_
   refine wp_cond_true (ev_hit hN4 rfl) ?_
   refine seq_any fun K13 hK13 => ?_
   refine one_reg ?_
   refine op_move (ev_hit hN4 rfl) ?_
   refine op_assign (ev_hit hN4 rfl) ?_
   refine reg_nil ?_
   refine hK13 _ _ ?_
   refine wp_ret (blk_ret (then_ret (then_ret (blk_ret (then_ret ( ?_))))))
   refine ret1 rfl hd4 (ev_hit hN4 rfl) ⟨_, rfl, ?_⟩
   -- path 9T 16T
   exact ⟨⟨_, rfl, by rw [in_t (i := i) (by omega) (u16_eq c16).symm]; exact decide_eq_true (by omega)⟩, rfl⟩
  · -- 16F
   refine reg_nil ?_
   refine hK9 _ _ ?_
   refine wp_cond_false (ev_hit hN4 rfl) ?_
   refine wp_skip ?_
   refine hK7 _ _ ?_
   refine one_reg ?_
   refine op_add (ev_base hN4 rfl s4_8) rfl (add64 (by omega)) ?_
   refine op_move (ev_hit hN4 rfl) ?_
   refine reg_nil ?_
   -- round 9T 16F
   exact loop_next _ hN4 hd4 ⟨i + 1, rfl, (sl_base hN4 rfl s4_0), (sl_base hN4 rfl s4_1), (sl_base hN4 rfl s4_7), (sl_hit hN4 rfl).trans (congrArg (Value.int .i64) (by omega)), (by omega), (no_step hno (fun e9 => c16 (by rw [e9]))), rfl⟩ (by omega)
 · -- 9F
  refine reg_nil ?_
  refine hK5 _ _ ?_
  refine seq_any fun K14 hK14 => ?_
  refine wp_cond_false (ev_hit hN4 rfl) ?_
  refine wp_exit (then_exit (then_exit (blk_hit ?_)))
  refine hK2 _ _ ?_
  refine seq_any fun K15 hK15 => ?_
  refine one_reg ?_
  refine op_assign rfl ?_
  refine reg_nil ?_
  refine hK15 _ _ ?_
  refine wp_ret ?_
  refine ret1 rfl hd4 (ev_hit hN4 rfl) ⟨_, rfl, ?_⟩
  -- path 9F
  exact ⟨⟨_, rfl, by rw [in_f (i := i) (by omega) hno]; rfl⟩, rfl⟩

theorem contW_ret (l : Lb) (x : UInt16) (v : Value) (w : World) (hz : l.length ≤ 1000000000000) (hl : RdC w 0 w.heap.size 1 v l.length (l.map u16v)) : Ret Try.prog 146 #[v, (Value.int .u16 (x.toNat : Int))] w (fun v' w' => v' = .bool (inL x l) ∧ w' = w) := by
 have hb := Below.refl w.heap.size w
 refine enter (N := 9) Try.func146 rfl rfl (by simp) fun a0 hN hd hA => ?_
 have s0 : a0.tmps.getD 0 undef = v := hA 0 (by simp)
 have s1 : a0.tmps.getD 1 undef = (Value.int .u16 (x.toNat : Int)) := hA 1 (by simp)
 clear hA
 refine seq_any fun K16 hK16 => ?_
 refine one_reg ?_
 refine op_assign rfl ?_
 refine reg_nil ?_
 refine hK16 _ _ ?_
 refine seq_any fun K17 hK17 => ?_
 refine one_reg ?_
 refine op_move (ev_base hN rfl s0) ?_
 refine op_move (ev_base hN rfl s1) ?_
 refine op_fn (vs := [v, (Value.int .u16 (x.toNat : Int))]) ok152 ⟨(ev_hit hN rfl), ⟨(ev_hit hN rfl), trivial⟩⟩ (Ret.flip (indexW_ret l x _ _ (by omega) (show RdC w 0 w.heap.size 1 v l.length (l.map u16v) from by have hh : RdC w 0 w.heap.size 1 _ _ _ := (hl.mono (L' := 0) (B' := w.heap.size) (Nat.zero_le _) (by omega)); first | exact hh | exact hh.cast (by first | omega | (simp; try omega)) (by first | rfl | simp [u16v])))) ?_
 rintro _ _ ⟨⟨zi18, rfl, hzi18⟩, rfl⟩
 refine op_geq (ev_hit hN rfl) rfl (fun c8 => ?_) (fun c8 => ?_)
 · -- 8T
  refine op_assign (ev_hit hN rfl) ?_
  refine reg_nil ?_
  refine hK17 _ _ ?_
  refine wp_ret ?_
  refine ret1 rfl hd (ev_hit hN rfl) ⟨_, rfl, ?_⟩
  -- path 8T
  exact ⟨congrArg Value.bool (by rw [← hzi18]; simp; omega), rfl⟩
 · -- 8F
  refine op_assign (ev_hit hN rfl) ?_
  refine reg_nil ?_
  refine hK17 _ _ ?_
  refine wp_ret ?_
  refine ret1 rfl hd (ev_hit hN rfl) ⟨_, rfl, ?_⟩
  -- path 8F
  exact ⟨congrArg Value.bool (by rw [← hzi18]; simp; omega), rfl⟩

theorem rinW_ret (l : Lb) (x : UInt16) (v : Value) (w : World) (hz : l.length ≤ 1000000000000) (hl : RdC w 0 w.heap.size 1 v l.length (l.map u16v)) : Ret Try.prog 94 #[v, (Value.int .u16 (x.toNat : Int))] w (fun v' w' => v' = .bool (inL x l) ∧ w' = w) := by
 have hb := Below.refl w.heap.size w
 refine enter (N := 18) Try.func94 rfl rfl (by simp) fun a0 hN hd hA => ?_
 have s0 : a0.tmps.getD 0 undef = v := hA 0 (by simp)
 have s1 : a0.tmps.getD 1 undef = (Value.int .u16 (x.toNat : Int)) := hA 1 (by simp)
 clear hA
 refine seq_any fun K19 hK19 => ?_
 refine one_reg ?_
 refine op_assign rfl ?_
 refine reg_nil ?_
 refine hK19 _ _ ?_
 refine seq_any fun K20 hK20 => ?_
 refine seq_any fun K21 hK21 => ?_
 refine one_reg ?_
 refine op_assign rfl ?_
 refine reg_nil ?_
 refine hK21 _ _ ?_
 refine wp_block ?_
 refine loop_m (fun mz_ az_ w' => ∃ (i : Nat), mz_ = l.length - i ∧ (az_.tmps.getD 0 undef = v) ∧ (az_.tmps.getD 1 undef = (Value.int .u16 (x.toNat : Int))) ∧ (az_.tmps.getD 5 undef = (Value.int .i64 ((i : Nat) : Int))) ∧ (i ≤ l.length) ∧ (∀ j9, j9 < i → l.getD j9 0 ≠ x) ∧ w = w') _ hN hd ⟨0, rfl, (sl_base hN rfl s0), (sl_base hN rfl s1), (sl_hit hN rfl).trans (congrArg (Value.int .i64) (by omega)), Nat.zero_le _, (fun j9 h9 => absurd h9 (Nat.not_lt_zero _)), rfl⟩ ?_
 rintro _ a22 _ hN22 hd22 ⟨i, rfl, s22_0, s22_1, s22_5, hi, hno, rfl⟩
 refine seq_any fun K23 hK23 => ?_
 refine seq_any fun K24 hK24 => ?_
 refine one_reg ?_
 refine op_move (ev_base hN22 rfl s22_5) ?_
 refine op_move (ev_base hN22 rfl s22_0) ?_
 refine op_len_rd Try.underlying45 (ev_hit hN22 rfl) hl ?_
 refine op_lss (ev_hit hN22 rfl) (ev_hit hN22 rfl) (fun c9 => ?_) (fun c9 => ?_)
 · -- 9T
  refine reg_nil ?_
  refine hK24 _ _ ?_
  refine wp_cond_true (ev_hit hN22 rfl) ?_
  refine wp_skip ?_
  refine hK23 _ _ ?_
  refine seq_any fun K25 hK25 => ?_
  refine wp_block ?_
  refine seq_any fun K26 hK26 => ?_
  refine one_reg ?_
  refine op_move (ev_base hN22 rfl s22_0) ?_
  refine op_move (ev_base hN22 rfl s22_5) ?_
  refine op_index_rd slt45 (ev_hit hN22 rfl) hl (ev_hit hN22 rfl) (by omega) (by omega) ?_
  intro b27 o28 h0b27 h1b27 hc29
  refine op_load1 (v := (Value.int .u16 ((l.getD i 0).toNat : Int))) one46 (ev_hit hN22 rfl) (by have := hc29 0 (Value.int .u16 ((l.getD i 0).toNat : Int)) (by decide) (el_u16 (i := i) (by omega) (by omega)); simpa using this) ?_
  refine op_move (ev_base hN22 rfl s22_1) ?_
  refine op_eql (ev_hit hN22 rfl) (ev_hit hN22 rfl) (fun c17 => ?_) (fun c17 => ?_)
  · -- 17T
   refine reg_nil ?_
   refine hK26 _ _ ?_
   refine wp_cond_true (ev_hit hN22 rfl) ?_
   refine seq_any fun K30 hK30 => ?_
   refine one_reg ?_
   refine op_assign rfl ?_
   refine reg_nil ?_
   refine hK30 _ _ ?_
   refine wp_ret (blk_ret (then_ret (then_ret (blk_ret (then_ret ( ?_))))))
   refine ret1 rfl hd22 (ev_hit hN22 rfl) ⟨_, rfl, ?_⟩
   -- path 9T 17T
   exact ⟨congrArg Value.bool (in_t (i := i) (by omega) (u16_eq c17)).symm, rfl⟩
  · -- 17F
   refine reg_nil ?_
   refine hK26 _ _ ?_
   refine wp_cond_false (ev_hit hN22 rfl) ?_
   refine wp_skip ?_
   refine hK25 _ _ ?_
   refine one_reg ?_
   refine op_move (ev_base hN22 rfl s22_5) ?_
   refine op_add (ev_hit hN22 rfl) rfl (add64 (by omega)) ?_
   refine op_assign (ev_hit hN22 rfl) ?_
   refine reg_nil ?_
   -- round 9T 17F
   exact loop_next _ hN22 hd22 ⟨i + 1, rfl, (sl_base hN22 rfl s22_0), (sl_base hN22 rfl s22_1), (sl_hit hN22 rfl).trans (congrArg (Value.int .i64) (by omega)), (by omega), (no_step hno (fun e9 => c17 (by rw [e9]))), rfl⟩ (by omega)
 · -- 9F
  refine reg_nil ?_
  refine hK24 _ _ ?_
  refine wp_cond_false (ev_hit hN22 rfl) ?_
  refine wp_exit (then_exit (then_exit (blk_hit ?_)))
  refine hK20 _ _ ?_
  refine seq_any fun K31 hK31 => ?_
  refine one_reg ?_
  refine op_assign rfl ?_
  refine reg_nil ?_
  refine hK31 _ _ ?_
  refine wp_ret ?_
  refine ret1 rfl hd22 (ev_hit hN22 rfl) ⟨_, rfl, ?_⟩
  -- path 9F
  exact ⟨congrArg Value.bool (in_f (i := i) (by omega) hno).symm, rfl⟩

theorem minus1W_ret (x : UInt16) (m : Lb) (u : Value) (bc : Nat) (w : World) (hzm : m.length ≤ 1000000000000) (hbc : Bx w bc 54 [u]) (hm : RdC w 0 w.heap.size 1 u m.length (m.map u16v)) : Ret Try.prog 145 #[(Value.int .u16 (x.toNat : Int)), (ptr bc 0)] w (fun v' w' => v' = .bool (ninL x m) ∧ w' = w) := by
 have hb := Below.refl w.heap.size w
 refine enter (N := 8) Try.func145 rfl rfl (by simp) fun a0 hN hd hA => ?_
 have s0 : a0.tmps.getD 0 undef = (Value.int .u16 (x.toNat : Int)) := hA 0 (by simp)
 have s1 : a0.tmps.getD 1 undef = (ptr bc 0) := hA 1 (by simp)
 clear hA
 refine seq_any fun K32 hK32 => ?_
 refine one_reg ?_
 refine op_assign rfl ?_
 refine reg_nil ?_
 refine hK32 _ _ ?_
 refine seq_any fun K33 hK33 => ?_
 refine one_reg ?_
 refine op_load1 (v := u) one54 (ev_base hN rfl s1) (hbc.cell rfl) ?_
 refine op_move (ev_base hN rfl s0) ?_
 refine op_fn (vs := [u, (Value.int .u16 (x.toNat : Int))]) ok146 ⟨(ev_hit hN rfl), ⟨(ev_hit hN rfl), trivial⟩⟩ (Ret.flip (contW_ret m x _ _ (by omega) (show RdC w 0 w.heap.size 1 u m.length (m.map u16v) from by have hh : RdC w 0 w.heap.size 1 _ _ _ := (hm.mono (L' := 0) (B' := w.heap.size) (Nat.zero_le _) (by omega)); first | exact hh | exact hh.cast (by first | omega | (simp; try omega)) (by first | rfl | simp [u16v])))) ?_
 rintro _ _ ⟨rfl, rfl⟩
 refine op_not (ev_hit hN rfl) ?_
 refine op_assign (ev_hit hN rfl) ?_
 refine reg_nil ?_
 refine hK33 _ _ ?_
 refine wp_ret ?_
 refine ret1 rfl hd (ev_hit hN rfl) ⟨_, rfl, ?_⟩
 -- path
 exact ⟨rfl, rfl⟩

theorem those52_ret (l : Lb) (v : Value) (m : Lb) (u : Value) (bc : Nat) (w : World) (hz : l.length ≤ 1000000000000) (hl : RdC w 0 w.heap.size 1 v l.length (l.map u16v)) (hzm : m.length ≤ 1000000000000) (hbc : Bx w bc 54 [u]) (hm : RdC w 0 w.heap.size 1 u m.length (m.map u16v)) : Ret Try.prog 144 #[v, (Value.func (.func 145) #[] #[(ptr bc 0)])] w (fun v' w' => Below w.heap.size w w' ∧ Own w' w.heap.size 46 1 v' (l.filter (fun x => ninL x m)).length ((l.filter (fun x => ninL x m)).map u16v)) := by
 have hbc_lt := hbc.lt
 have hb := Below.refl w.heap.size w
 refine enter (N := 23) Try.func144 rfl rfl (by simp) fun a0 hN hd hA => ?_
 have s0 : a0.tmps.getD 0 undef = v := hA 0 (by simp)
 have s1 : a0.tmps.getD 1 undef = (Value.func (.func 145) #[] #[(ptr bc 0)]) := hA 1 (by simp)
 clear hA
 refine seq_any fun K34 hK34 => ?_
 refine one_reg ?_
 refine op_assign rfl ?_
 refine reg_nil ?_
 refine hK34 _ _ ?_
 refine seq_any fun K35 hK35 => ?_
 refine one_reg ?_
 refine op_assign rfl ?_
 refine reg_nil ?_
 refine hK35 _ _ ?_
 refine seq_any fun K36 hK36 => ?_
 refine seq_any fun K37 hK37 => ?_
 refine one_reg ?_
 refine op_move (ev_base hN rfl s0) ?_
 refine op_len_rd Try.underlying45 (ev_hit hN rfl) hl ?_
 refine op_move rfl ?_
 refine reg_nil ?_
 refine hK37 _ _ ?_
 refine wp_block ?_
 refine loop_m (fun mz_ az_ w' => ∃ (i : Nat) (r : Value), mz_ = l.length - i ∧ (az_.tmps.getD 1 undef = (Value.func (.func 145) #[] #[(ptr bc 0)])) ∧ (az_.tmps.getD 4 undef = (Value.slice none 0 0)) ∧ (az_.tmps.getD 8 undef = v) ∧ (az_.tmps.getD 9 undef = (Value.int .i64 ((l.length : Nat) : Int))) ∧ (az_.tmps.getD 10 undef = (Value.int .i64 ((i : Nat) : Int))) ∧ (az_.tmps.getD 5 undef = r) ∧ (i ≤ l.length) ∧ (((l.take i).filter (fun x => ninL x m)).length ≤ i) ∧ (Below w.heap.size w w') ∧ (w.heap.size ≤ w'.heap.size) ∧ (RdC w' 0 w.heap.size 1 v l.length (l.map u16v)) ∧ (Bx w' bc 54 [u]) ∧ (RdC w' 0 w.heap.size 1 u m.length (m.map u16v)) ∧ (Own w' w.heap.size 46 1 r ((l.take i).filter (fun x => ninL x m)).length (((l.take i).filter (fun x => ninL x m)).map u16v))) _ hN hd ⟨0, _, rfl, (sl_base hN rfl s1), (sl_hit hN rfl), (sl_hit hN rfl), (sl_hit hN rfl), (sl_hit hN rfl), (sl_hit hN rfl), Nat.zero_le _, (by simp), hb, (Nat.le_refl _), hl, hbc, hm, (Own.nil _ _ _ _)⟩ ?_
 rintro _ a38 w38 hN38 hd38 ⟨i, r, rfl, s38_1, s38_4, s38_8, s38_9, s38_10, s38_5, hi, hfl, hb, zl_w38, hl, hbc, hm, hO39⟩
 have z_w38 := hb.size
 refine seq_any fun K40 hK40 => ?_
 refine one_reg ?_
 refine op_lss (ev_base hN38 rfl s38_10) (ev_base hN38 rfl s38_9) (fun c11 => ?_) (fun c11 => ?_)
 · -- 11T
  refine reg_nil ?_
  refine hK40 _ _ ?_
  refine seq_any fun K41 hK41 => ?_
  refine wp_cond_true (ev_hit hN38 rfl) ?_
  refine wp_skip ?_
  refine hK41 _ _ ?_
  refine seq_any fun K42 hK42 => ?_
  refine wp_block ?_
  refine seq_any fun K43 hK43 => ?_
  refine one_reg ?_
  refine op_index_rd slt45 (ev_base hN38 rfl s38_8) hl (ev_base hN38 rfl s38_10) (by omega) (by omega) ?_
  intro b44 o45 h0b44 h1b44 hc46
  refine op_load1 (v := (Value.int .u16 ((l.getD i 0).toNat : Int))) one46 (ev_hit hN38 rfl) (by have := hc46 0 (Value.int .u16 ((l.getD i 0).toNat : Int)) (by decide) (el_u16 (i := i) (by omega) (by omega)); simpa using this) ?_
  refine op_assign (ev_hit hN38 rfl) ?_
  refine reg_nil ?_
  refine hK43 _ _ ?_
  refine seq_any fun K47 hK47 => ?_
  refine one_reg ?_
  refine op_move (ev_base hN38 rfl s38_1) ?_
  refine op_move (ev_hit hN38 rfl) ?_
  refine op_fnv (fs := []) (vs := [(Value.int .u16 ((l.getD i 0).toNat : Int))]) (cs := [(ptr bc 0)]) (ev_hit hN38 rfl) ok145 ⟨(ev_hit hN38 rfl), trivial⟩ (Ret.flip (minus1W_ret (l.getD i 0) m _ _ _ (by omega) hbc (show RdC w38 0 w38.heap.size 1 u m.length (m.map u16v) from by have hh : RdC w38 0 w38.heap.size 1 _ _ _ := (hm.mono (L' := 0) (B' := w38.heap.size) (Nat.zero_le _) (by omega)); first | exact hh | exact hh.cast (by first | omega | (simp; try omega)) (by first | rfl | simp [u16v])))) ?_
  rintro _ _ ⟨rfl, rfl⟩
  rcases Bool.eq_false_or_eq_true ((ninL (l.getD i 0) m)) with c16 | c16
  · -- 16T
   rw [c16]
   refine reg_nil ?_
   refine hK47 _ _ ?_
   refine wp_cond_true (ev_hit hN38 rfl) ?_
   refine one_reg ?_
   refine op_move (ev_base hN38 rfl s38_5) ?_
   refine op_move (ev_hit hN38 rfl) ?_
   refine op_bslice (e := 46) (pv := [(0, (Value.int .u16 ((l.getD i 0).toNat : Int)))]) (cs := [(Value.int .u16 ((l.getD i 0).toNat : Int))]) ⟨rfl, (ev_hit hN38 rfl), trivial⟩ (by kernel_rfl) ?_
   intro w48 b49 lo_b49 hi_b49 hB51 E50
   have ne_b49_r : r.ownBlock ≠ some b49 := fun hh => by have := (hO39.lt _ hh).2; omega
   have z_w48 := E50.size
   have hl := hl.keep0 E50
   have hbc := hbc.keep0 E50
   have hm := hm.keep0 E50
   have hO39 := hO39.keep0 E50
   have hb := below_step0 hb E50 hb.size
   have hP57 := hO39
   refine op_append slt45 (ev_hit hN38 rfl) hP57 (ev_hit hN38 rfl) (Src.ofRd Try.underlying45 (by decide) (RdC.ofBx (sz := 1) (n := 1) hB51 rfl (by decide)) (by simp [Value.oneCell', u8v])) (by unfold maxLen; omega) (by omega) hb.size ?_
   intro v52 w53 hO55 E54 hm56
   have z_w53 := E54.size
   have hl := hl.keepO hP57 E54 (by omega)
   have hbc := hbc.keepO hP57 E54 (by decide)
   have hm := hm.keepO hP57 E54 (by omega)
   have hB51 := hB51.keep E54 (fun hh => ne_b49_r hh.symm)
   have hb := below_stepO hb hP57 E54 hb.size (by omega)
   have hO55 : Own w53 w.heap.size 46 1 v52 (((l.take i).filter (fun x => ninL x m)).length + 1) (((((l.take i).filter (fun x => ninL x m)) ++ [(l.getD i 0)])).map u16v) := by simpa [u8v, u16v, cellsV] using hO55
   have ne_b49_v52 : v52.ownBlock ≠ some b49 := ne_step (w1 := w48) ⟨E54, hm56⟩ (by omega) ne_b49_r
   refine op_assign (ev_hit hN38 rfl) ?_
   refine reg_nil ?_
   refine hK42 _ _ ?_
   refine one_reg ?_
   refine op_add (ev_base hN38 rfl s38_10) rfl (add64 (by omega)) ?_
   refine op_move (ev_hit hN38 rfl) ?_
   refine reg_nil ?_
   -- round 11T 16T
   exact loop_next _ hN38 hd38 ⟨i + 1, _, rfl, (sl_base hN38 rfl s38_1), (sl_base hN38 rfl s38_4), (sl_base hN38 rfl s38_8), (sl_base hN38 rfl s38_9), (sl_hit hN38 rfl).trans (congrArg (Value.int .i64) (by omega)), (sl_hit hN38 rfl), (by omega), (by first | exact filter_le), hb, (by omega), hl, hbc, hm, (hO55.cast (by rw [filter_t (by omega) c16]; try simp) (by rw [filter_t (by omega) c16]; try simp [u16v]))⟩ (by omega)
  · -- 16F
   rw [c16]
   refine reg_nil ?_
   refine hK47 _ _ ?_
   refine wp_cond_false (ev_hit hN38 rfl) ?_
   refine wp_skip ?_
   refine hK42 _ _ ?_
   refine one_reg ?_
   refine op_add (ev_base hN38 rfl s38_10) rfl (add64 (by omega)) ?_
   refine op_move (ev_hit hN38 rfl) ?_
   refine reg_nil ?_
   -- round 11T 16F
   exact loop_next _ hN38 hd38 ⟨i + 1, _, rfl, (sl_base hN38 rfl s38_1), (sl_base hN38 rfl s38_4), (sl_base hN38 rfl s38_8), (sl_base hN38 rfl s38_9), (sl_hit hN38 rfl).trans (congrArg (Value.int .i64) (by omega)), (sl_base hN38 rfl s38_5), (by omega), (by first | exact filter_le), hb, (by omega), hl, hbc, hm, (hO39.cast (by rw [filter_f (by omega) c16]) (by rw [filter_f (by omega) c16]))⟩ (by omega)
 · -- 11F
  refine reg_nil ?_
  refine hK40 _ _ ?_
  refine seq_any fun K58 hK58 => ?_
  refine wp_cond_false (ev_hit hN38 rfl) ?_
  refine wp_exit (then_exit (then_exit (blk_hit ?_)))
  refine hK36 _ _ ?_
  refine seq_any fun K59 hK59 => ?_
  refine one_reg ?_
  refine op_move (ev_base hN38 rfl s38_5) ?_
  refine op_assign (ev_hit hN38 rfl) ?_
  refine reg_nil ?_
  refine hK59 _ _ ?_
  refine wp_ret ?_
  refine ret1 rfl hd38 (ev_hit hN38 rfl) ⟨_, rfl, ?_⟩
  -- path 11F
  rw [take_all l (by omega)] at hO39
  exact ⟨hb, hO39⟩

theorem minusW_ret (l m : Lb) (v u : Value) (w : World) (hz : l.length ≤ 1000000000000) (hzm : m.length ≤ 1000000000000) (hl : RdC w 0 w.heap.size 1 v l.length (l.map u16v)) (hm : RdC w 0 w.heap.size 1 u m.length (m.map u16v)) : Ret Try.prog 129 #[v, u] w (fun v' w' => Below w.heap.size w w' ∧ Own w' w.heap.size 46 1 v' (minusL l m).length ((minusL l m).map u16v)) := by
 have hb := Below.refl w.heap.size w
 refine enter (N := 8) Try.func129 rfl rfl (by simp) fun a0 hN hd hA => ?_
 have s0 : a0.tmps.getD 0 undef = v := hA 0 (by simp)
 have s1 : a0.tmps.getD 1 undef = u := hA 1 (by simp)
 clear hA
 refine seq_any fun K60 hK60 => ?_
 refine one_reg ?_
 refine op_box (cs := [u]) (ev_base hN rfl s1) (RdC.cells hm) ?_
 intro w61 b62 lo_b62 hi_b62 hB64 E63
 have z_w61 := E63.size
 have hl := hl.keep0 E63
 have hm := hm.keep0 E63
 have hb := below_step0 hb E63 hb.size
 refine op_assign rfl ?_
 refine reg_nil ?_
 refine hK60 _ _ ?_
 refine seq_any fun K65 hK65 => ?_
 refine one_reg ?_
 refine op_move (ev_base hN rfl s0) ?_
 refine op_mkfn (cv := [(ptr b62 0)]) ⟨(ev_hit hN rfl), trivial⟩ ?_
 refine op_fn (vs := [v, (Value.func (.func 145) #[] #[(ptr b62 0)])]) ok144 ⟨(ev_hit hN rfl), ⟨(ev_hit hN rfl), trivial⟩⟩ (those52_ret l _ m _ _ _ (by omega) (show RdC w61 0 w61.heap.size 1 v l.length (l.map u16v) from by have hh : RdC w61 0 w61.heap.size 1 _ _ _ := (hl.mono (L' := 0) (B' := w61.heap.size) (Nat.zero_le _) (by omega)); first | exact hh | exact hh.cast (by first | omega | (simp; try omega)) (by first | rfl | simp [u16v])) (by omega) hB64 (show RdC w61 0 w61.heap.size 1 u m.length (m.map u16v) from by have hh : RdC w61 0 w61.heap.size 1 _ _ _ := (hm.mono (L' := 0) (B' := w61.heap.size) (Nat.zero_le _) (by omega)); first | exact hh | exact hh.cast (by first | omega | (simp; try omega)) (by first | rfl | simp [u16v]))) ?_
 rintro v66 w67 ⟨E68, hO66⟩
 have E68 := grown_of_below E68
 have z_w67 := E68.size
 have hl := hl.keep0 E68
 have hm := hm.keep0 E68
 have hB64 := hB64.keep0 E68
 have hb := below_step0 hb E68 hb.size
 have hO66 := hO66.mono (base' := w.heap.size) (by omega)
 refine op_assign (ev_hit hN rfl) ?_
 refine reg_nil ?_
 refine hK65 _ _ ?_
 refine wp_ret ?_
 refine ret1 rfl hd (ev_hit hN rfl) ⟨_, rfl, ?_⟩
 -- path
 exact ⟨hb, hO66⟩

theorem flowsW_ret (l m : Lb) (v u : Value) (w : World) (hz : l.length ≤ 1000000000000) (hzm : m.length ≤ 1000000000000) (hl : RdC w 0 w.heap.size 1 v l.length (l.map u16v)) (hm : RdC w 0 w.heap.size 1 u m.length (m.map u16v)) : Ret Try.prog 106 #[v, u] w (fun v' w' => Below w.heap.size w w' ∧ v' = .bool (flowsL l m)) := by
 have hb := Below.refl w.heap.size w
 refine enter (N := 10) Try.func106 rfl rfl (by simp) fun a0 hN hd hA => ?_
 have s0 : a0.tmps.getD 0 undef = v := hA 0 (by simp)
 have s1 : a0.tmps.getD 1 undef = u := hA 1 (by simp)
 clear hA
 refine seq_any fun K69 hK69 => ?_
 refine one_reg ?_
 refine op_assign rfl ?_
 refine reg_nil ?_
 refine hK69 _ _ ?_
 refine seq_any fun K70 hK70 => ?_
 refine one_reg ?_
 refine op_move (ev_base hN rfl s0) ?_
 refine op_move (ev_base hN rfl s1) ?_
 refine op_fn (vs := [v, u]) ok129 ⟨(ev_hit hN rfl), ⟨(ev_hit hN rfl), trivial⟩⟩ (minusW_ret l m _ _ _ (by first | assumption | omega | (simp only [List.length_append, List.length_cons, List.length_nil, List.length_drop, List.length_take]; omega) | (dsimp only; omega) | decide | (simp [keyV, be8_len]; done)) (by first | assumption | omega | (simp only [List.length_append, List.length_cons, List.length_nil, List.length_drop, List.length_take]; omega) | (dsimp only; omega) | decide | (simp [keyV, be8_len]; done)) (show RdC w 0 w.heap.size 1 v l.length (l.map u16v) from by have hh : RdC w 0 w.heap.size 1 _ _ _ := (hl.mono (L' := 0) (B' := w.heap.size) (Nat.zero_le _) (by omega)); first | exact hh | exact hh.cast (by first | omega | (simp; try omega)) (by first | rfl | simp [u16v])) (show RdC w 0 w.heap.size 1 u m.length (m.map u16v) from by have hh : RdC w 0 w.heap.size 1 _ _ _ := (hm.mono (L' := 0) (B' := w.heap.size) (Nat.zero_le _) (by omega)); first | exact hh | exact hh.cast (by first | omega | (simp; try omega)) (by first | rfl | simp [u16v]))) ?_
 rintro v71 w72 ⟨E73, hO71⟩
 have E73 := grown_of_below E73
 have z_w72 := E73.size
 have hl := hl.keep0 E73
 have hm := hm.keep0 E73
 have hb := below_step0 hb E73 hb.size
 have hO71 := hO71.mono (base' := w.heap.size) (by omega)
 refine op_len_rd Try.underlying54 (ev_hit hN rfl) hO71.rdw ?_
 refine op_eql (ev_hit hN rfl) rfl (fun c9 => ?_) (fun c9 => ?_)
 · -- 9T
  refine op_assign (ev_hit hN rfl) ?_
  refine reg_nil ?_
  refine hK70 _ _ ?_
  refine wp_ret ?_
  refine ret1 rfl hd (ev_hit hN rfl) ⟨_, rfl, ?_⟩
  -- path 9T
  exact ⟨hb, congrArg Value.bool (by rw [flows_minus]; symm; first | exact decide_eq_true (by omega) | exact decide_eq_false (by omega))⟩
 · -- 9F
  refine op_assign (ev_hit hN rfl) ?_
  refine reg_nil ?_
  refine hK70 _ _ ?_
  refine wp_ret ?_
  refine ret1 rfl hd (ev_hit hN rfl) ⟨_, rfl, ?_⟩
  -- path 9F
  exact ⟨hb, congrArg Value.bool (by rw [flows_minus]; symm; first | exact decide_eq_true (by omega) | exact decide_eq_false (by omega))⟩

end Go.Proofs.Ytmhdbphpmgjpcaa

/- Walks, written by a program: what each function of the translation hands back. -/
namespace Go.Proofs.Ytmhdbphpmgjpcaa
open Go.Gx Go.RowKit
attribute [local irreducible] wpList wpStill Code.wp Calls
open Go.Sort (bitsLen)
theorem rflowsW_ret (l m : Lb) (v u : Value) (w : World) (hz : l.length ≤ 1000000000000) (hzm : m.length ≤ 1000000000000) (hl : RdC w 0 w.heap.size 1 v l.length (l.map u16v)) (hm : RdC w 0 w.heap.size 1 u m.length (m.map u16v)) : Ret Try.prog 50 #[v, u] w (fun v' w' => Below w.heap.size w w' ∧ v' = .bool (flowsL l m)) := by
 have hb := Below.refl w.heap.size w
 refine enter (N := 19) Try.func50 rfl rfl (by simp) fun a0 hN hd hA => ?_
 have s0 : a0.tmps.getD 0 undef = v := hA 0 (by simp)
 have s1 : a0.tmps.getD 1 undef = u := hA 1 (by simp)
 clear hA
 refine seq_any fun K1 hK1 => ?_
 refine one_reg ?_
 refine op_assign rfl ?_
 refine reg_nil ?_
 refine hK1 _ _ ?_
 refine seq_any fun K2 hK2 => ?_
 refine seq_any fun K3 hK3 => ?_
 refine one_reg ?_
 refine op_assign rfl ?_
 refine reg_nil ?_
 refine hK3 _ _ ?_
 refine wp_block ?_
 refine loop_m (fun mz_ az_ w' => ∃ (i : Nat), mz_ = l.length - i ∧ (az_.tmps.getD 0 undef = v) ∧ (az_.tmps.getD 1 undef = u) ∧ (az_.tmps.getD 5 undef = (Value.int .i64 ((i : Nat) : Int))) ∧ (i ≤ l.length) ∧ ((l.take i).all (fun x => inL x m) = true) ∧ w = w') _ hN hd ⟨0, rfl, (sl_base hN rfl s0), (sl_base hN rfl s1), (sl_hit hN rfl).trans (congrArg (Value.int .i64) (by omega)), Nat.zero_le _, rfl, rfl⟩ ?_
 rintro _ a4 _ hN4 hd4 ⟨i, rfl, s4_0, s4_1, s4_5, hi, hall, rfl⟩
 refine seq_any fun K5 hK5 => ?_
 refine seq_any fun K6 hK6 => ?_
 refine one_reg ?_
 refine op_move (ev_base hN4 rfl s4_5) ?_
 refine op_move (ev_base hN4 rfl s4_0) ?_
 refine op_len_rd Try.underlying54 (ev_hit hN4 rfl) hl ?_
 refine op_lss (ev_hit hN4 rfl) (ev_hit hN4 rfl) (fun c9 => ?_) (fun c9 => ?_)
 · -- 9T
  refine reg_nil ?_
  refine hK6 _ _ ?_
  refine wp_cond_true (ev_hit hN4 rfl) ?_
  refine wp_skip ?_
  refine hK5 _ _ ?_
  refine seq_any fun K7 hK7 => ?_
  refine wp_block ?_
  refine seq_any fun K8 hK8 => ?_
  refine one_reg ?_
  refine op_move (ev_base hN4 rfl s4_1) ?_
  refine op_move (ev_base hN4 rfl s4_0) ?_
  refine op_move (ev_base hN4 rfl s4_5) ?_
  refine op_index_rd slt54 (ev_hit hN4 rfl) hl (ev_hit hN4 rfl) (by omega) (by omega) ?_
  intro b9 o10 h0b9 h1b9 hc11
  refine op_load1 (v := (Value.int .u16 ((l.getD i 0).toNat : Int))) one46 (ev_hit hN4 rfl) (by have := hc11 0 (Value.int .u16 ((l.getD i 0).toNat : Int)) (by decide) (el_u16 (i := i) (by omega) (by omega)); simpa using this) ?_
  refine op_fn (vs := [u, (Value.int .u16 ((l.getD i 0).toNat : Int))]) ok94 ⟨(ev_hit hN4 rfl), ⟨(ev_hit hN4 rfl), trivial⟩⟩ (Ret.flip (rinW_ret m (l.getD i 0) _ _ (by omega) (show RdC w 0 w.heap.size 1 u m.length (m.map u16v) from by have hh : RdC w 0 w.heap.size 1 _ _ _ := (hm.mono (L' := 0) (B' := w.heap.size) (Nat.zero_le _) (by omega)); first | exact hh | exact hh.cast (by first | omega | (simp; try omega)) (by first | rfl | simp [u16v])))) ?_
  rintro _ _ ⟨rfl, rfl⟩
  rcases Bool.eq_false_or_eq_true ((inL (l.getD i 0) m)) with c17 | c17
  · -- 17T
   rw [c17]
   refine op_not (ev_hit hN4 rfl) ?_
   refine reg_nil ?_
   refine hK8 _ _ ?_
   refine wp_cond_false (ev_hit hN4 rfl) ?_
   refine wp_skip ?_
   refine hK7 _ _ ?_
   refine one_reg ?_
   refine op_move (ev_base hN4 rfl s4_5) ?_
   refine op_add (ev_hit hN4 rfl) rfl (add64 (by omega)) ?_
   refine op_assign (ev_hit hN4 rfl) ?_
   refine reg_nil ?_
   -- round 9T 17T
   exact loop_next _ hN4 hd4 ⟨i + 1, rfl, (sl_base hN4 rfl s4_0), (sl_base hN4 rfl s4_1), (sl_hit hN4 rfl).trans (congrArg (Value.int .i64) (by omega)), (by omega), (all_step (by omega) hall c17), rfl⟩ (by omega)
  · -- 17F
   rw [c17]
   refine op_not (ev_hit hN4 rfl) ?_
   refine reg_nil ?_
   refine hK8 _ _ ?_
   refine wp_cond_true (ev_hit hN4 rfl) ?_
   refine seq_any fun K12 hK12 => ?_
   refine one_reg ?_
   refine op_assign rfl ?_
   refine reg_nil ?_
   refine hK12 _ _ ?_
   refine wp_ret (blk_ret (then_ret (then_ret (blk_ret (then_ret ( ?_))))))
   refine ret1 rfl hd4 (ev_hit hN4 rfl) ⟨_, rfl, ?_⟩
   -- path 9T 17F
   exact ⟨hb, congrArg Value.bool (all_f (i := i) (by omega) c17).symm⟩
 · -- 9F
  refine reg_nil ?_
  refine hK6 _ _ ?_
  refine wp_cond_false (ev_hit hN4 rfl) ?_
  refine wp_exit (then_exit (then_exit (blk_hit ?_)))
  refine hK2 _ _ ?_
  refine seq_any fun K13 hK13 => ?_
  refine one_reg ?_
  refine op_assign rfl ?_
  refine reg_nil ?_
  refine hK13 _ _ ?_
  refine wp_ret ?_
  refine ret1 rfl hd4 (ev_hit hN4 rfl) ⟨_, rfl, ?_⟩
  -- path 9F
  exact ⟨hb, congrArg Value.bool (all_end (i := i) (by omega) hall).symm⟩

end Go.Proofs.Ytmhdbphpmgjpcaa

/- Walks, written by a program: what each function of the translation hands back. -/
namespace Go.Proofs.Ytmhdbphpmgjpcaa
open Go.Gx Go.RowKit
attribute [local irreducible] wpList wpStill Code.wp Calls
open Go.Sort (bitsLen)
set_option maxHeartbeats 2000000 in
theorem rallW_ret (l : Lb) (v : Value) (w : World) (hz : l.length ≤ 1000000000000) (hl : RdC w 0 w.heap.size 1 v l.length (l.map u16v)) : Ret Try.prog 92 #[v] w (fun v' w' => Below w.heap.size w w' ∧ Own w' w.heap.size 46 1 v' (nrm l).length ((nrm l).map u16v)) := by
 have hb := Below.refl w.heap.size w
 refine enter (N := 60) Try.func92 rfl rfl (by simp) fun a0 hN hd hA => ?_
 have s0 : a0.tmps.getD 0 undef = v := hA 0 (by simp)
 clear hA
 refine seq_any fun K1 hK1 => ?_
 refine one_reg ?_
 refine op_assign rfl ?_
 refine reg_nil ?_
 refine hK1 _ _ ?_
 refine seq_any fun K2 hK2 => ?_
 refine one_reg ?_
 refine op_assign rfl ?_
 refine reg_nil ?_
 refine hK2 _ _ ?_
 refine seq_any fun K3 hK3 => ?_
 refine seq_any fun K4 hK4 => ?_
 refine one_reg ?_
 refine op_assign rfl ?_
 refine reg_nil ?_
 refine hK4 _ _ ?_
 refine wp_block ?_
 refine loop_m (fun mz_ az_ w' => ∃ (i : Nat) (r : Value), mz_ = l.length - i ∧ (az_.tmps.getD 0 undef = v) ∧ (az_.tmps.getD 2 undef = (Value.slice none 0 0)) ∧ (az_.tmps.getD 4 undef = (Value.int .i64 ((i : Nat) : Int))) ∧ (az_.tmps.getD 3 undef = r) ∧ (i ≤ l.length) ∧ ((nrm (l.take i)).length ≤ i) ∧ (Below w.heap.size w w') ∧ (w.heap.size ≤ w'.heap.size) ∧ (RdC w' 0 w.heap.size 1 v l.length (l.map u16v)) ∧ (Own w' w.heap.size 46 1 r (nrm (l.take i)).length ((nrm (l.take i)).map u16v))) _ hN hd ⟨0, _, rfl, (sl_base hN rfl s0), (sl_hit hN rfl), (sl_hit hN rfl).trans (congrArg (Value.int .i64) (by omega)), (sl_hit hN rfl), Nat.zero_le _, (by simp [nrm]), hb, (Nat.le_refl _), hl, (Own.nil _ _ _ _)⟩ ?_
 rintro _ a5 w5 hN5 hd5 ⟨i, r, rfl, s5_0, s5_2, s5_4, s5_3, hi, hfl, hb, zl_w5, hl, hO6⟩
 have z_w5 := hb.size
 refine seq_any fun K7 hK7 => ?_
 refine seq_any fun K8 hK8 => ?_
 refine one_reg ?_
 refine op_move (ev_base hN5 rfl s5_4) ?_
 refine op_move (ev_base hN5 rfl s5_0) ?_
 refine op_len_rd Try.underlying45 (ev_hit hN5 rfl) hl ?_
 refine op_lss (ev_hit hN5 rfl) (ev_hit hN5 rfl) (fun c9 => ?_) (fun c9 => ?_)
 · -- 9T
  refine reg_nil ?_
  refine hK8 _ _ ?_
  refine wp_cond_true (ev_hit hN5 rfl) ?_
  refine wp_skip ?_
  refine hK7 _ _ ?_
  refine seq_any fun K9 hK9 => ?_
  refine wp_block ?_
  refine seq_any fun K10 hK10 => ?_
  refine one_reg ?_
  refine op_assign rfl ?_
  refine reg_nil ?_
  refine hK10 _ _ ?_
  refine seq_any fun K11 hK11 => ?_
  refine wp_block ?_
  refine loop_m (fun mz_ az_ w' => ∃ (jj : Nat), mz_ = (nrm (l.take i)).length - jj ∧ (az_.tmps.getD 0 undef = v) ∧ (az_.tmps.getD 2 undef = (Value.slice none 0 0)) ∧ (az_.tmps.getD 3 undef = r) ∧ (az_.tmps.getD 4 undef = (Value.int .i64 ((i : Nat) : Int))) ∧ (az_.tmps.getD 5 undef = (Value.int .i64 ((jj : Nat) : Int))) ∧ (jj ≤ (nrm (l.take i)).length) ∧ (∀ k9, k9 < jj → ((nrm (l.take i)).getD k9 0).toNat < (l.getD i 0).toNat) ∧ (Below w.heap.size w w') ∧ (w5.heap.size ≤ w'.heap.size) ∧ (RdC w' 0 w.heap.size 1 v l.length (l.map u16v)) ∧ (Own w' w.heap.size 46 1 r (nrm (l.take i)).length ((nrm (l.take i)).map u16v))) _ hN5 hd5 ⟨0, rfl, (sl_base hN5 rfl s5_0), (sl_base hN5 rfl s5_2), (sl_base hN5 rfl s5_3), (sl_base hN5 rfl s5_4), (sl_hit hN5 rfl).trans (congrArg (Value.int .i64) (by omega)), Nat.zero_le _, (fun k9 h9 => absurd h9 (Nat.not_lt_zero _)), hb, (Nat.le_refl _), hl, hO6⟩ ?_
  rintro _ a12 w12 hN12 hd12 ⟨jj, rfl, s12_0, s12_2, s12_3, s12_4, s12_5, hj, hlt, hb, zl_w12, hl, hO6⟩
  have z_w12 := hb.size
  refine seq_any fun K13 hK13 => ?_
  refine seq_any fun K14 hK14 => ?_
  refine reg_still mixed (by kernel_rfl) ?_
  intro w16 E15
  have z_w16 := E15.size
  have hl := hl.keep0 E15
  have hO6 := hO6.keep0 E15
  have hb := below_step0 hb E15 hb.size
  refine st_step rfl (fun _ h9 => op_move (ev_base hN12 rfl s12_5) h9) ?_
  refine st_step rfl (fun _ h9 => op_move (ev_base hN12 rfl s12_3) h9) ?_
  refine st_step rfl (fun _ h9 => op_len_rd Try.underlying54 (ev_hit hN12 rfl) hO6.rdw h9) ?_
  by_cases g15 : ((jj : Nat) : Int) < (((nrm (l.take i)).length : Nat) : Int)
  · -- 15T
   refine st_step rfl (fun _ h9 => op_cmp (b := true) (ev_hit hN12 rfl) (ev_hit hN12 rfl) (b_lss (decide_eq_true g15)) h9) ?_
   refine st_step rfl (fun _ h9 => op_move (ev_hit hN12 rfl) h9) ?_
   refine st_g_true (j := 4) (dj := 16) (b := true) rfl rfl rfl (ev_hit hN12 rfl) ?_
   refine st_step rfl (fun _ h9 => op_move (ev_base hN12 rfl s12_3) h9) ?_
   refine st_g_true (j := 4) (dj := 16) (b := true) rfl rfl rfl (ev_hit hN12 rfl) ?_
   refine st_step rfl (fun _ h9 => op_move (ev_base hN12 rfl s12_5) h9) ?_
   refine st_g_true (j := 4) (dj := 16) (b := true) rfl rfl rfl (ev_hit hN12 rfl) ?_
   refine st_index_rd slt54 (ev_hit hN12 rfl) hO6.rdw (ev_hit hN12 rfl) (by omega) (by omega) ?_
   intro b17 o18 h0b17 h1b17 hc19
   refine st_g_true (j := 4) (dj := 16) (b := true) rfl rfl rfl (ev_hit hN12 rfl) ?_
   refine st_step rfl (fun _ h9 => op_load1 (v := (Value.int .u16 (((nrm (l.take i)).getD jj 0).toNat : Int))) one46 (ev_hit hN12 rfl) (by have := hc19 0 (Value.int .u16 (((nrm (l.take i)).getD jj 0).toNat : Int)) (by decide) (el_u16 (i := jj) (by omega) (by omega)); simpa using this) h9) ?_
   refine st_g_true (j := 4) (dj := 16) (b := true) rfl rfl rfl (ev_hit hN12 rfl) ?_
   refine st_step rfl (fun _ h9 => op_move (ev_base hN12 rfl s12_0) h9) ?_
   refine st_g_true (j := 4) (dj := 16) (b := true) rfl rfl rfl (ev_hit hN12 rfl) ?_
   refine st_step rfl (fun _ h9 => op_move (ev_base hN12 rfl s12_4) h9) ?_
   refine st_g_true (j := 4) (dj := 16) (b := true) rfl rfl rfl (ev_hit hN12 rfl) ?_
   refine st_index_rd slt45 (ev_hit hN12 rfl) hl (ev_hit hN12 rfl) (by omega) (by omega) ?_
   intro b20 o21 h0b20 h1b20 hc22
   refine st_g_true (j := 4) (dj := 16) (b := true) rfl rfl rfl (ev_hit hN12 rfl) ?_
   refine st_step rfl (fun _ h9 => op_load1 (v := (Value.int .u16 ((l.getD i 0).toNat : Int))) one46 (ev_hit hN12 rfl) (by have := hc22 0 (Value.int .u16 ((l.getD i 0).toNat : Int)) (by decide) (el_u16 (i := i) (by omega) (by omega)); simpa using this) h9) ?_
   refine st_g_true (j := 4) (dj := 16) (b := true) rfl rfl rfl (ev_hit hN12 rfl) ?_
   refine st_step rfl (fun _ h9 => op_cmp (b := (decide ((((nrm (l.take i)).getD jj 0).toNat : Int) < ((l.getD i 0).toNat : Int)))) (ev_hit hN12 rfl) (ev_hit hN12 rfl) (b_lss rfl) h9) ?_
   refine st_step rfl (fun _ h9 => op_pick_t (ev_hit hN12 rfl) (ev_hit hN12 rfl) h9) ?_
   refine st_nil ?_
   refine hK14 _ _ ?_
   refine wp_cond_split (ev_hit hN12 rfl) (fun c26 => ?_) (fun c26 => ?_)
   · -- 26T
    have c26 := of_decide_eq_true c26
    refine wp_skip ?_
    refine hK13 _ _ ?_
    refine wp_block ?_
    refine one_reg ?_
    refine op_move (ev_base hN12 rfl s12_5) ?_
    refine op_add (ev_hit hN12 rfl) rfl (add64 (by omega)) ?_
    refine op_assign (ev_hit hN12 rfl) ?_
    refine reg_nil ?_
    refine blk_normal ?_
    -- round 9T 15T 26T
    exact loop_next _ hN12 hd12 ⟨jj + 1, rfl, (sl_base hN12 rfl s12_0), (sl_base hN12 rfl s12_2), (sl_base hN12 rfl s12_3), (sl_base hN12 rfl s12_4), (sl_hit hN12 rfl).trans (congrArg (Value.int .i64) (by omega)), (by omega), (lt_step hlt (by omega)), hb, (by omega), hl, hO6⟩ (by omega)
   · -- 26F
    have c26 := of_decide_eq_false c26
    refine wp_exit (then_exit (then_exit (blk_hit ?_)))
    refine hK11 _ _ ?_
    refine seq_any fun K23 hK23 => ?_
    refine reg_still mixed (by kernel_rfl) ?_
    intro w25 E24
    have z_w25 := E24.size
    have hl := hl.keep0 E24
    have hO6 := hO6.keep0 E24
    have hb := below_step0 hb E24 hb.size
    refine st_step rfl (fun _ h9 => op_move (ev_base hN12 rfl s12_5) h9) ?_
    refine st_step rfl (fun _ h9 => op_move (ev_base hN12 rfl s12_3) h9) ?_
    refine st_step rfl (fun _ h9 => op_len_rd Try.underlying54 (ev_hit hN12 rfl) hO6.rdw h9) ?_
    by_cases g32 : ((jj : Nat) : Int) = (((nrm (l.take i)).length : Nat) : Int)
    · -- 32T
     refine st_step rfl (fun _ h9 => op_cmp (b := true) (ev_hit hN12 rfl) (ev_hit hN12 rfl) (b_eql (decide_eq_true g32)) h9) ?_
     refine st_step rfl (fun _ h9 => op_move (ev_hit hN12 rfl) h9) ?_
     refine st_g_false (j := 4) (dj := 33) (b := false) rfl rfl rfl (ev_hit hN12 rfl) rfl rfl ?_
     refine st_g_false (j := 4) (dj := 33) (b := false) rfl rfl rfl (ev_hit hN12 rfl) rfl rfl ?_
     refine st_g_false (j := 4) (dj := 33) (b := false) rfl rfl rfl (ev_hit hN12 rfl) rfl rfl ?_
     refine st_g_false (j := 4) (dj := 33) (b := false) rfl rfl rfl (ev_hit hN12 rfl) rfl rfl ?_
     refine st_g_false (j := 4) (dj := 33) (b := false) rfl rfl rfl (ev_hit hN12 rfl) rfl rfl ?_
     refine st_g_false (j := 4) (dj := 33) (b := false) rfl rfl rfl (ev_hit hN12 rfl) rfl rfl ?_
     refine st_g_false (j := 4) (dj := 33) (b := false) rfl rfl rfl (ev_hit hN12 rfl) rfl rfl ?_
     refine st_g_false (j := 4) (dj := 33) (b := false) rfl rfl rfl (ev_hit hN12 rfl) rfl rfl ?_
     refine st_g_false (j := 4) (dj := 33) (b := false) rfl rfl rfl (ev_hit hN12 rfl) rfl rfl ?_
     refine st_step rfl (fun _ h9 => op_pick_t (ev_hit hN12 rfl) rfl h9) ?_
     refine st_nil ?_
     refine hK23 _ _ ?_
     refine wp_cond_true (ev_hit hN12 rfl) ?_
     have hO6_s := hO6
     refine reg_split (hd := [_, _, _, _, _, _, _, _, _, _, _, _, _, _]) (tl := _) 14 mixed (by kernel_rfl) rfl rfl ?_
     refine any_chain (Φ := phiC [chP 0, (fun _ _ uz _ => uz = r), (fun _ _ uz _ => uz = (Value.int .i64 ((jj : Nat) : Int))), (fun _ vz uz w' => ∃ (v30 : Value), uz = v30 ∧ RdC w' w.heap.size w25.heap.size 1 v30 jj ((((nrm (l.take i)).take jj)).map u16v) ∧ (w25.heap.size ≤ w'.heap.size ∧ ∀ k, vz.ownBlock = some k → w25.heap.size ≤ k)), chP 1, (fun _ _ uz _ => uz = v), (fun _ _ uz _ => uz = (Value.int .i64 ((i : Nat) : Int))), (fun _ vz uz w' => ∃ (b39 : (Nat)) (o40 : (Nat)), uz = (ptr b39 o40) ∧ PtC w' 0 w.heap.size b39 o40 [(Value.int .u16 ((l.getD i 0).toNat : Int))] ∧ (w.heap.size ≤ w'.heap.size ∧ ∀ k, vz.ownBlock = some k → w.heap.size ≤ k)), (fun _ _ uz _ => uz = (Value.int .u16 ((l.getD i 0).toNat : Int))), (fun _ vz uz w' => ∃ (b44 : Nat), uz = (Value.slice (some ⟨b44, 0, none⟩) 1 1) ∧ w25.heap.size ≤ b44 ∧ Bx w' b44 46 [(Value.int .u16 ((l.getD i 0).toNat : Int))] ∧ vz.ownBlock ≠ some b44), chP 2, (fun _ _ uz _ => uz = r), (fun _ _ uz _ => uz = (Value.int .i64 ((jj : Nat) : Int))), (fun _ vz uz w' => ∃ (v54 : Value), uz = v54 ∧ RdC w' w.heap.size w25.heap.size 1 v54 ((nrm (l.take i)).length - jj) ((((nrm (l.take i)).drop jj)).map u16v) ∧ (w25.heap.size ≤ w'.heap.size ∧ ∀ k, vz.ownBlock = some k → w25.heap.size ≤ k))]) (C := CL [(fun vz w' => Own w' w.heap.size 46 1 vz 0 ([])), (fun vz w' => Own w' w.heap.size 46 1 vz 0 ([])), (fun vz w' => Own w' w.heap.size 46 1 vz (0 + jj) ((((nrm (l.take i)).take jj)).map u16v)), (fun vz w' => Own w' w.heap.size 46 1 vz ((0 + jj) + 1) (((((nrm (l.take i)).take jj) ++ [(l.getD i 0)])).map u16v))]) ⟨[0, 4, 10], fun c => [60, 44, 48, 54].getD c 60⟩ (Value.slice none 0 0) (by kernel_rfl) (by kernel_rfl) (by kernel_rfl) (by kernel_rfl) hN12 (StK.get0 (n := 3) (StK.ch (StK.eq (StK.eq (StK.cons (fun c v u w1 w2 E h => by obtain ⟨x0, hv, f0, q0⟩ := h; exact ⟨x0, hv, f0.keep0 E, ⟨Nat.le_trans q0.1 E.size, q0.2⟩⟩) (fun c v v' u w1 w2 _ E h => by obtain ⟨x0, hv, f0, q0⟩ := h; exact ⟨x0, hv, f0.keep E.1 (fun k hk => .inr (q0.2 k hk)), ⟨Nat.le_trans q0.1 E.1.size, ge_step E q0.1 q0.2⟩⟩) (StK.ch (StK.eq (StK.eq (StK.cons (fun c v u w1 w2 E h => by obtain ⟨x0, x1, hv, f0, q0⟩ := h; exact ⟨x0, x1, hv, f0.keep0 E, ⟨Nat.le_trans q0.1 E.size, q0.2⟩⟩) (fun c v v' u w1 w2 _ E h => by obtain ⟨x0, x1, hv, f0, q0⟩ := h; exact ⟨x0, x1, hv, f0.keep E.1 (fun k hk => .inr (q0.2 k hk)), ⟨Nat.le_trans q0.1 E.1.size, ge_step E q0.1 q0.2⟩⟩) (StK.eq (StK.cons (fun c v u w1 w2 E h => by obtain ⟨x0, hv, l0, f0, q0⟩ := h; exact ⟨x0, hv, l0, f0.keep0 E, q0⟩) (fun c v v' u w1 w2 _ E h => by obtain ⟨x0, hv, l0, f0, q0⟩ := h; exact ⟨x0, hv, l0, f0.keep E.1 (fun hh => q0 hh.symm), ne_step E f0.lt q0⟩) (StK.ch (StK.eq (StK.eq (StK.cons (fun c v u w1 w2 E h => by obtain ⟨x0, hv, f0, q0⟩ := h; exact ⟨x0, hv, f0.keep0 E, ⟨Nat.le_trans q0.1 E.size, q0.2⟩⟩) (fun c v v' u w1 w2 _ E h => by obtain ⟨x0, hv, f0, q0⟩ := h; exact ⟨x0, hv, f0.keep E.1 (fun k hk => .inr (q0.2 k hk)), ⟨Nat.le_trans q0.1 E.1.size, ge_step E q0.1 q0.2⟩⟩) (StK.nil)))))))))))))))) (StK.get1 (n := 3) (StK.ch (StK.eq (StK.eq (StK.cons (fun c v u w1 w2 E h => by obtain ⟨x0, hv, f0, q0⟩ := h; exact ⟨x0, hv, f0.keep0 E, ⟨Nat.le_trans q0.1 E.size, q0.2⟩⟩) (fun c v v' u w1 w2 _ E h => by obtain ⟨x0, hv, f0, q0⟩ := h; exact ⟨x0, hv, f0.keep E.1 (fun k hk => .inr (q0.2 k hk)), ⟨Nat.le_trans q0.1 E.1.size, ge_step E q0.1 q0.2⟩⟩) (StK.ch (StK.eq (StK.eq (StK.cons (fun c v u w1 w2 E h => by obtain ⟨x0, x1, hv, f0, q0⟩ := h; exact ⟨x0, x1, hv, f0.keep0 E, ⟨Nat.le_trans q0.1 E.size, q0.2⟩⟩) (fun c v v' u w1 w2 _ E h => by obtain ⟨x0, x1, hv, f0, q0⟩ := h; exact ⟨x0, x1, hv, f0.keep E.1 (fun k hk => .inr (q0.2 k hk)), ⟨Nat.le_trans q0.1 E.1.size, ge_step E q0.1 q0.2⟩⟩) (StK.eq (StK.cons (fun c v u w1 w2 E h => by obtain ⟨x0, hv, l0, f0, q0⟩ := h; exact ⟨x0, hv, l0, f0.keep0 E, q0⟩) (fun c v v' u w1 w2 _ E h => by obtain ⟨x0, hv, l0, f0, q0⟩ := h; exact ⟨x0, hv, l0, f0.keep E.1 (fun hh => q0 hh.symm), ne_step E f0.lt q0⟩) (StK.ch (StK.eq (StK.eq (StK.cons (fun c v u w1 w2 E h => by obtain ⟨x0, hv, f0, q0⟩ := h; exact ⟨x0, hv, f0.keep0 E, ⟨Nat.le_trans q0.1 E.size, q0.2⟩⟩) (fun c v v' u w1 w2 _ E h => by obtain ⟨x0, hv, f0, q0⟩ := h; exact ⟨x0, hv, f0.keep E.1 (fun k hk => .inr (q0.2 k hk)), ⟨Nat.le_trans q0.1 E.1.size, ge_step E q0.1 q0.2⟩⟩) (StK.nil)))))))))))))))) (StL2.get0 (StL2.own (StL2.own (StL2.own (StL2.own (StL2.nil)))))) (StL2.get1 (StL2.own (StL2.own (StL2.own (StL2.own (StL2.nil)))))) (Own.nil w25 w.heap.size 46 1) (ObLn.get (ObLn.pass rfl (ObLn.cons ?_ (ObLn.cons ?_ (ObLn.cons ?_ (ObLn.pass rfl (ObLn.cons ?_ (ObLn.cons ?_ (ObLn.cons ?_ (ObLn.cons ?_ (ObLn.cons ?_ (ObLn.pass rfl (ObLn.cons ?_ (ObLn.cons ?_ (ObLn.cons ?_ (ObLn.nil)))))))))))))))) (ObLc.get (ObLc.cons ?_ (ObLc.cons ?_ (ObLc.cons ?_ (ObLc.nil))))) ?_
     ·
      intro aA wA ccA cvA hNA hclA hRA hltA hvoA hbsA hdpA
      have qA_3 := (hbsA 3 rfl).trans (sl_base hN12 rfl s12_3)
      refine op_move (ev_base hNA rfl qA_3) ?_
      exact obNc_end rfl rfl (grown_refl _ _)
     ·
      intro aA wA ccA cvA hNA hclA hRA hltA hvoA hbsA hdpA
      have qA_5 := (hbsA 5 rfl).trans (sl_base hN12 rfl s12_5)
      refine op_move (ev_base hNA rfl qA_5) ?_
      exact obNc_end rfl rfl (grown_refl _ _)
     ·
      intro aA wA ccA cvA hNA hclA hRA hltA hvoA hbsA hdpA
      have hRA : w25.grownBy wA (Value.slice none 0 0).ownBlock := hRA
      have hnil_o := (Own.nil w25 w.heap.size 46 1)
      have z_wA := hRA.size
      have hb := below_stepO hb (Own.nil w25 w.heap.size 46 1) hRA hb.size (by omega)
      have hl := hl.keep0 hRA
      have hO6 := hO6.keep0 hRA
      have qA_45 : Sl aA 45 r := hdpA 1 _ 45 (by kernel_rfl) rfl rfl
      have qA_46 : Sl aA 46 (Value.int .i64 ((jj : Nat) : Int)) := hdpA 2 _ 46 (by kernel_rfl) rfl rfl
      clear hbsA hdpA
      refine op_slice_rd (lo := 0) (hi := jj) slt54 (ev_base hNA rfl qA_45) (Own.rdB hO6 hO6_s) (.inl ⟨rfl, rfl⟩) (.inr ⟨_, _, rfl, (ev_base hNA rfl qA_46)⟩) (by omega) (by omega) ?_
      intro v26 hR27
      have hR27 : RdC wA w.heap.size w25.heap.size 1 v26 jj ((((nrm (l.take i)).take jj)).map u16v) := by simpa [List.map_drop, List.map_take] using hR27
      exact obNc_end rfl ⟨v26, rfl, hR27, ⟨by omega, ge_of hvoA (fun k hk => by simp [Value.ownBlock] at hk) (by omega)⟩⟩ (grown_refl _ _)
     ·
      intro aA wA ccA cvA hNA hclA hRA hltA hvoA hbsA hdpA
      have qA_0 := (hbsA 0 rfl).trans (sl_base hN12 rfl s12_0)
      refine op_move (ev_base hNA rfl qA_0) ?_
      exact obNc_end rfl rfl (grown_refl _ _)
     ·
      intro aA wA ccA cvA hNA hclA hRA hltA hvoA hbsA hdpA
      have qA_4 := (hbsA 4 rfl).trans (sl_base hN12 rfl s12_4)
      refine op_move (ev_base hNA rfl qA_4) ?_
      exact obNc_end rfl rfl (grown_refl _ _)
     ·
      intro aA wA ccA cvA hNA hclA hRA hltA hvoA hbsA hdpA
      have hRA : w25.grownBy wA (Value.slice none 0 0).ownBlock := hRA
      have hnil_o := (Own.nil w25 w.heap.size 46 1)
      have z_wA := hRA.size
      have hb := below_stepO hb (Own.nil w25 w.heap.size 46 1) hRA hb.size (by omega)
      have hl := hl.keep0 hRA
      have hO6 := hO6.keep0 hRA
      have qA_49 : Sl aA 49 v := hdpA 5 _ 49 (by kernel_rfl) rfl rfl
      have qA_50 : Sl aA 50 (Value.int .i64 ((i : Nat) : Int)) := hdpA 6 _ 50 (by kernel_rfl) rfl rfl
      clear hbsA hdpA
      refine op_index_rd slt45 (ev_base hNA rfl qA_49) hl (ev_base hNA rfl qA_50) (by omega) (by omega) ?_
      intro b28 o29 h0b28 h1b28 hc30
      have hp31 : PtC wA 0 w.heap.size b28 o29 [(Value.int .u16 ((l.getD i 0).toNat : Int))] := ⟨by omega, by omega, fun j u hu => hc30 j u (by have := (List.getElem?_eq_some_iff.1 hu).1; simpa using this) ((fun j u hu => one_at (el_u16 (i := i) (by omega) (by omega)) hu) j u hu)⟩
      exact obNc_end rfl ⟨b28, o29, rfl, hp31, ⟨by omega, ge_of hvoA (fun k hk => by simp [Value.ownBlock] at hk) (by omega)⟩⟩ (grown_refl _ _)
     ·
      intro aA wA ccA cvA hNA hclA hRA hltA hvoA hbsA hdpA
      have hRA : w25.grownBy wA (Value.slice none 0 0).ownBlock := hRA
      have hnil_o := (Own.nil w25 w.heap.size 46 1)
      have z_wA := hRA.size
      have hb := below_stepO hb (Own.nil w25 w.heap.size 46 1) hRA hb.size (by omega)
      have hl := hl.keep0 hRA
      have hO6 := hO6.keep0 hRA
      obtain ⟨b39, o40, qA_51, hp42, xqA_51_0⟩ := hdpA 7 _ 51 (by kernel_rfl) rfl rfl
      have hp42 : PtC wA 0 w.heap.size b39 o40 [(Value.int .u16 ((l.getD i 0).toNat : Int))] := hp42
      clear hbsA hdpA
      refine op_load1 (v := (Value.int .u16 ((l.getD i 0).toNat : Int))) one46 (ev_base hNA rfl qA_51) (hp42.2.2 0 _ rfl) ?_
      exact obNc_end rfl rfl (grown_refl _ _)
     ·
      intro aA wA ccA cvA hNA hclA hRA hltA hvoA hbsA hdpA
      have hRA : w25.grownBy wA (Value.slice none 0 0).ownBlock := hRA
      have hnil_o := (Own.nil w25 w.heap.size 46 1)
      have z_wA := hRA.size
      have hb := below_stepO hb (Own.nil w25 w.heap.size 46 1) hRA hb.size (by omega)
      have hl := hl.keep0 hRA
      have hO6 := hO6.keep0 hRA
      have qA_52 : Sl aA 52 (Value.int .u16 ((l.getD i 0).toNat : Int)) := hdpA 8 _ 52 (by kernel_rfl) rfl rfl
      clear hbsA hdpA
      refine op_bslice (e := 46) (pv := [(0, (Value.int .u16 ((l.getD i 0).toNat : Int)))]) (cs := [(Value.int .u16 ((l.getD i 0).toNat : Int))]) ⟨rfl, (ev_base hNA rfl qA_52), trivial⟩ (by kernel_rfl) ?_
      intro w32 b33 lo_b33 hi_b33 hB35 E34
      have ne_b33_r : r.ownBlock ≠ some b33 := fun hh => by have := (hO6.lt _ hh).2; omega
      have z_w32 := E34.size
      have hl := hl.keep0 E34
      have hO6 := hO6.keep0 E34
      have hb := below_step0 hb E34 hb.size
      exact obNc_end rfl ⟨b33, rfl, (by omega), hB35, (fun hh => by have := hltA _ hh; omega)⟩ (E34)
     ·
      intro aA wA ccA cvA hNA hclA hRA hltA hvoA hbsA hdpA
      have qA_3 := (hbsA 3 rfl).trans (sl_base hN12 rfl s12_3)
      refine op_move (ev_base hNA rfl qA_3) ?_
      exact obNc_end rfl rfl (grown_refl _ _)
     ·
      intro aA wA ccA cvA hNA hclA hRA hltA hvoA hbsA hdpA
      have qA_5 := (hbsA 5 rfl).trans (sl_base hN12 rfl s12_5)
      refine op_move (ev_base hNA rfl qA_5) ?_
      exact obNc_end rfl rfl (grown_refl _ _)
     ·
      intro aA wA ccA cvA hNA hclA hRA hltA hvoA hbsA hdpA
      have hRA : w25.grownBy wA (Value.slice none 0 0).ownBlock := hRA
      have hnil_o := (Own.nil w25 w.heap.size 46 1)
      have z_wA := hRA.size
      have hb := below_stepO hb (Own.nil w25 w.heap.size 46 1) hRA hb.size (by omega)
      have hl := hl.keep0 hRA
      have hO6 := hO6.keep0 hRA
      have qA_55 : Sl aA 55 r := hdpA 11 _ 55 (by kernel_rfl) rfl rfl
      have qA_56 : Sl aA 56 (Value.int .i64 ((jj : Nat) : Int)) := hdpA 12 _ 56 (by kernel_rfl) rfl rfl
      clear hbsA hdpA
      refine op_slice_rd (lo := jj) (hi := (nrm (l.take i)).length) slt54 (ev_base hNA rfl qA_55) (Own.rdB hO6 hO6_s) (.inr ⟨_, _, rfl, (ev_base hNA rfl qA_56)⟩) (.inl ⟨rfl, rfl⟩) (by omega) (by omega) ?_
      intro v36 hR37
      have hR37 : RdC wA w.heap.size w25.heap.size 1 v36 ((nrm (l.take i)).length - jj) ((((nrm (l.take i)).drop jj)).map u16v) := by simpa [List.map_drop, List.map_take, List.take_of_length_le] using hR37
      exact obNc_end rfl ⟨v36, rfl, hR37, ⟨by omega, ge_of hvoA (fun k hk => by simp [Value.ownBlock] at hk) (by omega)⟩⟩ (grown_refl _ _)
     ·
      intro o_ ho_; obtain rfl := Option.some.inj ho_; intro aA wA cvA hNA hRA hcv0A hbsA hdpA hCA
      have hRA : w25.grownBy wA (Value.slice none 0 0).ownBlock := hRA
      have hnil_o := (Own.nil w25 w.heap.size 46 1)
      have z_wA := hRA.size
      have hb := below_stepO hb (Own.nil w25 w.heap.size 46 1) hRA hb.size (by omega)
      have hl := hl.keep0 hRA
      have hO6 := hO6.keep0 hRA
      have hcvA : (Value.slice none 0 0) = cvA := (hcv0A rfl).symm
      subst hcvA
      have hCA : Own wA w.heap.size 46 1 (Value.slice none 0 0) 0 ([]) := hCA
      clear hbsA hdpA
      refine op_bslice (e := 46) (pv := []) (cs := []) trivial (by kernel_rfl) ?_
      intro w38 b39 lo_b39 hi_b39 hB41 E40
      have ne_b39_r : r.ownBlock ≠ some b39 := fun hh => by have := (hO6.lt _ hh).2; omega
      have z_w38 := E40.size
      have hl := hl.keep0 E40
      have hO6 := hO6.keep0 E40
      have hCA := hCA.keep0 E40
      have hb := below_step0 hb E40 hb.size
      exact obCc_end rfl rfl (chP_now (w := w38)) (Own.ofBx (base := w.heap.size) (sz := 1) (n := 0) hB41 rfl (by decide) (by omega)) ⟨E40, .inr (fun k hk => by simp [Value.ownBlock] at hk; omega)⟩
     ·
      intro o_ ho_; obtain rfl := Option.some.inj ho_; intro aA wA cvA hNA hRA hcv0A hbsA hdpA hCA
      have hRA : w25.grownBy wA (Value.slice none 0 0).ownBlock := hRA
      have hnil_o := (Own.nil w25 w.heap.size 46 1)
      have z_wA := hRA.size
      have hb := below_stepO hb (Own.nil w25 w.heap.size 46 1) hRA hb.size (by omega)
      have hl := hl.keep0 hRA
      have hO6 := hO6.keep0 hRA
      have hCA : Own wA w.heap.size 46 1 cvA 0 ([]) := hCA
      have qA_44 : aA.tmps.getD 44 undef = cvA := (show chP 0 1 cvA (aA.tmps.getD 44 undef) wA from hdpA 0 _ 44 (by kernel_rfl) rfl rfl).2 rfl
      obtain ⟨v30, qA_47, hR31, xqA_47_0⟩ := hdpA 3 _ 47 (by kernel_rfl) rfl rfl
      have hR31 : RdC wA w.heap.size w25.heap.size 1 v30 jj ((((nrm (l.take i)).take jj)).map u16v) := hR31
      clear hbsA hdpA
      have hP47 := hCA
      refine op_append slt54 (ev_base hNA rfl qA_44) hP47 (ev_base hNA rfl qA_47) (Src.ofRd Try.underlying54 (by decide) hR31 (one_u16 _)) (by unfold maxLen; omega) (by omega) hb.size ?_
      intro v42 w43 hO45 E44 hm46
      have z_w43 := E44.size
      have hl := hl.keepO hP47 E44 (by omega)
      have hR31 := hR31.keep E44 (fun k hk => .inr (xqA_47_0.2 k hk))
      have hb := below_stepO hb hP47 E44 hb.size (by omega)
      have hO45 : Own w43 w.heap.size 46 1 v42 (0 + jj) ((((nrm (l.take i)).take jj)).map u16v) := by simpa [u8v, u16v, cellsV] using hO45
      exact obCc_end rfl rfl (chP_now (w := w43)) hO45 ⟨E44, hm46⟩
     ·
      intro o_ ho_; obtain rfl := Option.some.inj ho_; intro aA wA cvA hNA hRA hcv0A hbsA hdpA hCA
      have hRA : w25.grownBy wA (Value.slice none 0 0).ownBlock := hRA
      have hnil_o := (Own.nil w25 w.heap.size 46 1)
      have z_wA := hRA.size
      have hb := below_stepO hb (Own.nil w25 w.heap.size 46 1) hRA hb.size (by omega)
      have hl := hl.keep0 hRA
      have hO6 := hO6.keep0 hRA
      have hCA : Own wA w.heap.size 46 1 cvA (0 + jj) ((((nrm (l.take i)).take jj)).map u16v) := hCA
      have qA_48 : aA.tmps.getD 48 undef = cvA := (show chP 1 2 cvA (aA.tmps.getD 48 undef) wA from hdpA 4 _ 48 (by kernel_rfl) rfl rfl).2 rfl
      obtain ⟨b44, qA_53, loA_0, hB46, xqA_53_0⟩ := hdpA 9 _ 53 (by kernel_rfl) rfl rfl
      have hB46 : Bx wA b44 46 [(Value.int .u16 ((l.getD i 0).toNat : Int))] := hB46
      clear hbsA hdpA
      have hP53 := hCA
      refine op_append slt54 (ev_base hNA rfl qA_48) hP53 (ev_base hNA rfl qA_53) (Src.ofRd Try.underlying54 (by decide) (RdC.ofBx (sz := 1) (n := 1) hB46 rfl (by decide)) (by simp [Value.oneCell', u8v])) (by unfold maxLen; omega) (by omega) hb.size ?_
      intro v48 w49 hO51 E50 hm52
      have z_w49 := E50.size
      have hl := hl.keepO hP53 E50 (by omega)
      have hB46 := hB46.keep E50 (fun hh => xqA_53_0 hh.symm)
      have hb := below_stepO hb hP53 E50 hb.size (by omega)
      have hO51 : Own w49 w.heap.size 46 1 v48 ((0 + jj) + 1) (((((nrm (l.take i)).take jj) ++ [(l.getD i 0)])).map u16v) := by simpa [u8v, u16v, cellsV] using hO51
      exact obCc_end rfl rfl (chP_now (w := w49)) hO51 ⟨E50, hm52⟩
     ·
      intro a54 w54 v47 hN54 hd54 hbs54 hph54 hC54 E54 hm54
      have hd54 := hd54.trans hd12
      have s54_0 := (hbs54 0 rfl).trans (sl_base hN12 rfl s12_0)
      have s54_2 := (hbs54 2 rfl).trans (sl_base hN12 rfl s12_2)
      have s54_3 := (hbs54 3 rfl).trans (sl_base hN12 rfl s12_3)
      have s54_4 := (hbs54 4 rfl).trans (sl_base hN12 rfl s12_4)
      have s54_54 : a54.tmps.getD 54 undef = v47 := (show chP 2 3 v47 (a54.tmps.getD 54 undef) w54 from hph54 10 _ 54 rfl rfl).2 rfl
      obtain ⟨v54, s54_57, hR55, xq54_57_0⟩ := hph54 13 _ 57 rfl rfl
      have hR55 : RdC w54 w.heap.size w25.heap.size 1 v54 ((nrm (l.take i)).length - jj) ((((nrm (l.take i)).drop jj)).map u16v) := hR55
      clear hbs54 hph54
      have E54 : w25.grownBy w54 (Value.slice none 0 0).ownBlock := E54
      have hC54 : Own w54 w.heap.size 46 1 v47 ((0 + jj) + 1) (((((nrm (l.take i)).take jj) ++ [(l.getD i 0)])).map u16v) := hC54
      have dj55 : DJ r v47 := fun k hk hg => by have q1 := (hO6.lt k hk).2; rcases hm54 with h7 | h7; (rw [h7] at hg; simp [Value.ownBlock] at hg); (have := h7 k hg; omega)
      have E54 : w25.grownBy w54 none := E54
      have z_w54 := E54.size
      have hl := hl.keep0 E54
      have hO6 := hO6.keep0 E54
      have hb := below_step0 hb E54 hb.size
      refine split_end ?_
      refine from_seq (tl := [_, _]) (by decide) (by kernel_rfl) rfl ?_
      have hP61 := hC54
      refine op_append slt54 (ev_base hN54 rfl s54_54) hP61 (ev_base hN54 rfl s54_57) (Src.ofRd Try.underlying54 (by decide) hR55 (one_u16 _)) (by unfold maxLen; omega) (by omega) hb.size ?_
      intro v56 w57 hO59 E58 hm60
      have dj62 : DJ r v56 := DJ.step hm60 (fun k hk => (hO6.lt k hk).2) dj55
      have z_w57 := E58.size
      have hl := hl.keepO hP61 E58 (by omega)
      have hO6 := hO6.keepD E58 dj55
      have hR55 := hR55.keep E58 (fun k hk => .inr (xq54_57_0.2 k hk))
      have hb := below_stepO hb hP61 E58 hb.size (by omega)
      have hO59 : Own w57 w.heap.size 46 1 v56 (((0 + jj) + 1) + ((nrm (l.take i)).length - jj)) ((((((nrm (l.take i)).take jj) ++ [(l.getD i 0)]) ++ ((nrm (l.take i)).drop jj))).map u16v) := by simpa [u8v, u16v, cellsV] using hO59
      refine op_assign (ev_hit hN54 rfl) ?_
      refine reg_nil ?_
      refine hK9 _ _ ?_
      refine one_reg ?_
      refine op_move (ev_base hN54 rfl s54_4) ?_
      refine op_add (ev_hit hN54 rfl) rfl (add64 (by omega)) ?_
      refine op_assign (ev_hit hN54 rfl) ?_
      refine reg_nil ?_
      -- round 9T 15T 26F 32T
      have hins := insT_at (x := l.getD i 0) (acc := (nrm (l.take i))) (j := jj) hlt (by omega) (by omega)
      exact loop_next _ hN54 hd54 ⟨i + 1, _, rfl, (sl_base hN54 rfl s54_0), (sl_base hN54 rfl s54_2), (sl_hit hN54 rfl).trans (congrArg (Value.int .i64) (by omega)), (sl_hit hN54 rfl), (by omega), (nrm_len (by omega)), hb, (by omega), hl, (hO59.cast (by rw [take_nrm (by omega), hins.2 (.inl (by omega))]; simp; omega) (by rw [take_nrm (by omega), hins.2 (.inl (by omega))]; try simp [u16v]))⟩ (by omega)
    · -- 32F
     refine st_step rfl (fun _ h9 => op_cmp (b := false) (ev_hit hN12 rfl) (ev_hit hN12 rfl) (b_eql (decide_eq_false g32)) h9) ?_
     refine st_step rfl (fun _ h9 => op_move (ev_hit hN12 rfl) h9) ?_
     refine st_g_true (j := 4) (dj := 33) (b := false) rfl rfl rfl (ev_hit hN12 rfl) ?_
     refine st_step rfl (fun _ h9 => op_move (ev_base hN12 rfl s12_3) h9) ?_
     refine st_g_true (j := 4) (dj := 33) (b := false) rfl rfl rfl (ev_hit hN12 rfl) ?_
     refine st_step rfl (fun _ h9 => op_move (ev_base hN12 rfl s12_5) h9) ?_
     refine st_g_true (j := 4) (dj := 33) (b := false) rfl rfl rfl (ev_hit hN12 rfl) ?_
     refine st_index_rd slt54 (ev_hit hN12 rfl) hO6.rdw (ev_hit hN12 rfl) (by omega) (by omega) ?_
     intro b63 o64 h0b63 h1b63 hc65
     refine st_g_true (j := 4) (dj := 33) (b := false) rfl rfl rfl (ev_hit hN12 rfl) ?_
     refine st_step rfl (fun _ h9 => op_load1 (v := (Value.int .u16 (((nrm (l.take i)).getD jj 0).toNat : Int))) one46 (ev_hit hN12 rfl) (by have := hc65 0 (Value.int .u16 (((nrm (l.take i)).getD jj 0).toNat : Int)) (by decide) (el_u16 (i := jj) (by omega) (by omega)); simpa using this) h9) ?_
     refine st_g_true (j := 4) (dj := 33) (b := false) rfl rfl rfl (ev_hit hN12 rfl) ?_
     refine st_step rfl (fun _ h9 => op_move (ev_base hN12 rfl s12_0) h9) ?_
     refine st_g_true (j := 4) (dj := 33) (b := false) rfl rfl rfl (ev_hit hN12 rfl) ?_
     refine st_step rfl (fun _ h9 => op_move (ev_base hN12 rfl s12_4) h9) ?_
     refine st_g_true (j := 4) (dj := 33) (b := false) rfl rfl rfl (ev_hit hN12 rfl) ?_
     refine st_index_rd slt45 (ev_hit hN12 rfl) hl (ev_hit hN12 rfl) (by omega) (by omega) ?_
     intro b66 o67 h0b66 h1b66 hc68
     refine st_g_true (j := 4) (dj := 33) (b := false) rfl rfl rfl (ev_hit hN12 rfl) ?_
     refine st_step rfl (fun _ h9 => op_load1 (v := (Value.int .u16 ((l.getD i 0).toNat : Int))) one46 (ev_hit hN12 rfl) (by have := hc68 0 (Value.int .u16 ((l.getD i 0).toNat : Int)) (by decide) (el_u16 (i := i) (by omega) (by omega)); simpa using this) h9) ?_
     refine st_g_true (j := 4) (dj := 33) (b := false) rfl rfl rfl (ev_hit hN12 rfl) ?_
     refine st_step rfl (fun _ h9 => op_cmp (b := (decide ((((nrm (l.take i)).getD jj 0).toNat : Int) ≠ ((l.getD i 0).toNat : Int)))) (ev_hit hN12 rfl) (ev_hit hN12 rfl) (b_neq rfl) h9) ?_
     refine st_step rfl (fun _ h9 => op_pick_f (ev_hit hN12 rfl) (ev_hit hN12 rfl) h9) ?_
     refine st_nil ?_
     refine hK23 _ _ ?_
     refine wp_cond_split (ev_hit hN12 rfl) (fun c43 => ?_) (fun c43 => ?_)
     · -- 43T
      have c43 := of_decide_eq_true c43
      have hO6_s := hO6
      refine reg_split (hd := [_, _, _, _, _, _, _, _, _, _, _, _, _, _]) (tl := _) 14 mixed (by kernel_rfl) rfl rfl ?_
      refine any_chain (Φ := phiC [chP 0, (fun _ _ uz _ => uz = r), (fun _ _ uz _ => uz = (Value.int .i64 ((jj : Nat) : Int))), (fun _ vz uz w' => ∃ (v73 : Value), uz = v73 ∧ RdC w' w.heap.size w25.heap.size 1 v73 jj ((((nrm (l.take i)).take jj)).map u16v) ∧ (w25.heap.size ≤ w'.heap.size ∧ ∀ k, vz.ownBlock = some k → w25.heap.size ≤ k)), chP 1, (fun _ _ uz _ => uz = v), (fun _ _ uz _ => uz = (Value.int .i64 ((i : Nat) : Int))), (fun _ vz uz w' => ∃ (b82 : (Nat)) (o83 : (Nat)), uz = (ptr b82 o83) ∧ PtC w' 0 w.heap.size b82 o83 [(Value.int .u16 ((l.getD i 0).toNat : Int))] ∧ (w.heap.size ≤ w'.heap.size ∧ ∀ k, vz.ownBlock = some k → w.heap.size ≤ k)), (fun _ _ uz _ => uz = (Value.int .u16 ((l.getD i 0).toNat : Int))), (fun _ vz uz w' => ∃ (b87 : Nat), uz = (Value.slice (some ⟨b87, 0, none⟩) 1 1) ∧ w25.heap.size ≤ b87 ∧ Bx w' b87 46 [(Value.int .u16 ((l.getD i 0).toNat : Int))] ∧ vz.ownBlock ≠ some b87), chP 2, (fun _ _ uz _ => uz = r), (fun _ _ uz _ => uz = (Value.int .i64 ((jj : Nat) : Int))), (fun _ vz uz w' => ∃ (v97 : Value), uz = v97 ∧ RdC w' w.heap.size w25.heap.size 1 v97 ((nrm (l.take i)).length - jj) ((((nrm (l.take i)).drop jj)).map u16v) ∧ (w25.heap.size ≤ w'.heap.size ∧ ∀ k, vz.ownBlock = some k → w25.heap.size ≤ k))]) (C := CL [(fun vz w' => Own w' w.heap.size 46 1 vz 0 ([])), (fun vz w' => Own w' w.heap.size 46 1 vz 0 ([])), (fun vz w' => Own w' w.heap.size 46 1 vz (0 + jj) ((((nrm (l.take i)).take jj)).map u16v)), (fun vz w' => Own w' w.heap.size 46 1 vz ((0 + jj) + 1) (((((nrm (l.take i)).take jj) ++ [(l.getD i 0)])).map u16v))]) ⟨[0, 4, 10], fun c => [60, 44, 48, 54].getD c 60⟩ (Value.slice none 0 0) (by kernel_rfl) (by kernel_rfl) (by kernel_rfl) (by kernel_rfl) hN12 (StK.get0 (n := 3) (StK.ch (StK.eq (StK.eq (StK.cons (fun c v u w1 w2 E h => by obtain ⟨x0, hv, f0, q0⟩ := h; exact ⟨x0, hv, f0.keep0 E, ⟨Nat.le_trans q0.1 E.size, q0.2⟩⟩) (fun c v v' u w1 w2 _ E h => by obtain ⟨x0, hv, f0, q0⟩ := h; exact ⟨x0, hv, f0.keep E.1 (fun k hk => .inr (q0.2 k hk)), ⟨Nat.le_trans q0.1 E.1.size, ge_step E q0.1 q0.2⟩⟩) (StK.ch (StK.eq (StK.eq (StK.cons (fun c v u w1 w2 E h => by obtain ⟨x0, x1, hv, f0, q0⟩ := h; exact ⟨x0, x1, hv, f0.keep0 E, ⟨Nat.le_trans q0.1 E.size, q0.2⟩⟩) (fun c v v' u w1 w2 _ E h => by obtain ⟨x0, x1, hv, f0, q0⟩ := h; exact ⟨x0, x1, hv, f0.keep E.1 (fun k hk => .inr (q0.2 k hk)), ⟨Nat.le_trans q0.1 E.1.size, ge_step E q0.1 q0.2⟩⟩) (StK.eq (StK.cons (fun c v u w1 w2 E h => by obtain ⟨x0, hv, l0, f0, q0⟩ := h; exact ⟨x0, hv, l0, f0.keep0 E, q0⟩) (fun c v v' u w1 w2 _ E h => by obtain ⟨x0, hv, l0, f0, q0⟩ := h; exact ⟨x0, hv, l0, f0.keep E.1 (fun hh => q0 hh.symm), ne_step E f0.lt q0⟩) (StK.ch (StK.eq (StK.eq (StK.cons (fun c v u w1 w2 E h => by obtain ⟨x0, hv, f0, q0⟩ := h; exact ⟨x0, hv, f0.keep0 E, ⟨Nat.le_trans q0.1 E.size, q0.2⟩⟩) (fun c v v' u w1 w2 _ E h => by obtain ⟨x0, hv, f0, q0⟩ := h; exact ⟨x0, hv, f0.keep E.1 (fun k hk => .inr (q0.2 k hk)), ⟨Nat.le_trans q0.1 E.1.size, ge_step E q0.1 q0.2⟩⟩) (StK.nil)))))))))))))))) (StK.get1 (n := 3) (StK.ch (StK.eq (StK.eq (StK.cons (fun c v u w1 w2 E h => by obtain ⟨x0, hv, f0, q0⟩ := h; exact ⟨x0, hv, f0.keep0 E, ⟨Nat.le_trans q0.1 E.size, q0.2⟩⟩) (fun c v v' u w1 w2 _ E h => by obtain ⟨x0, hv, f0, q0⟩ := h; exact ⟨x0, hv, f0.keep E.1 (fun k hk => .inr (q0.2 k hk)), ⟨Nat.le_trans q0.1 E.1.size, ge_step E q0.1 q0.2⟩⟩) (StK.ch (StK.eq (StK.eq (StK.cons (fun c v u w1 w2 E h => by obtain ⟨x0, x1, hv, f0, q0⟩ := h; exact ⟨x0, x1, hv, f0.keep0 E, ⟨Nat.le_trans q0.1 E.size, q0.2⟩⟩) (fun c v v' u w1 w2 _ E h => by obtain ⟨x0, x1, hv, f0, q0⟩ := h; exact ⟨x0, x1, hv, f0.keep E.1 (fun k hk => .inr (q0.2 k hk)), ⟨Nat.le_trans q0.1 E.1.size, ge_step E q0.1 q0.2⟩⟩) (StK.eq (StK.cons (fun c v u w1 w2 E h => by obtain ⟨x0, hv, l0, f0, q0⟩ := h; exact ⟨x0, hv, l0, f0.keep0 E, q0⟩) (fun c v v' u w1 w2 _ E h => by obtain ⟨x0, hv, l0, f0, q0⟩ := h; exact ⟨x0, hv, l0, f0.keep E.1 (fun hh => q0 hh.symm), ne_step E f0.lt q0⟩) (StK.ch (StK.eq (StK.eq (StK.cons (fun c v u w1 w2 E h => by obtain ⟨x0, hv, f0, q0⟩ := h; exact ⟨x0, hv, f0.keep0 E, ⟨Nat.le_trans q0.1 E.size, q0.2⟩⟩) (fun c v v' u w1 w2 _ E h => by obtain ⟨x0, hv, f0, q0⟩ := h; exact ⟨x0, hv, f0.keep E.1 (fun k hk => .inr (q0.2 k hk)), ⟨Nat.le_trans q0.1 E.1.size, ge_step E q0.1 q0.2⟩⟩) (StK.nil)))))))))))))))) (StL2.get0 (StL2.own (StL2.own (StL2.own (StL2.own (StL2.nil)))))) (StL2.get1 (StL2.own (StL2.own (StL2.own (StL2.own (StL2.nil)))))) (Own.nil w25 w.heap.size 46 1) (ObLn.get (ObLn.pass rfl (ObLn.cons ?_ (ObLn.cons ?_ (ObLn.cons ?_ (ObLn.pass rfl (ObLn.cons ?_ (ObLn.cons ?_ (ObLn.cons ?_ (ObLn.cons ?_ (ObLn.cons ?_ (ObLn.pass rfl (ObLn.cons ?_ (ObLn.cons ?_ (ObLn.cons ?_ (ObLn.nil)))))))))))))))) (ObLc.get (ObLc.cons ?_ (ObLc.cons ?_ (ObLc.cons ?_ (ObLc.nil))))) ?_
      ·
       intro aA wA ccA cvA hNA hclA hRA hltA hvoA hbsA hdpA
       have qA_3 := (hbsA 3 rfl).trans (sl_base hN12 rfl s12_3)
       refine op_move (ev_base hNA rfl qA_3) ?_
       exact obNc_end rfl rfl (grown_refl _ _)
      ·
       intro aA wA ccA cvA hNA hclA hRA hltA hvoA hbsA hdpA
       have qA_5 := (hbsA 5 rfl).trans (sl_base hN12 rfl s12_5)
       refine op_move (ev_base hNA rfl qA_5) ?_
       exact obNc_end rfl rfl (grown_refl _ _)
      ·
       intro aA wA ccA cvA hNA hclA hRA hltA hvoA hbsA hdpA
       have hRA : w25.grownBy wA (Value.slice none 0 0).ownBlock := hRA
       have hnil_o := (Own.nil w25 w.heap.size 46 1)
       have z_wA := hRA.size
       have hb := below_stepO hb (Own.nil w25 w.heap.size 46 1) hRA hb.size (by omega)
       have hl := hl.keep0 hRA
       have hO6 := hO6.keep0 hRA
       have qA_45 : Sl aA 45 r := hdpA 1 _ 45 (by kernel_rfl) rfl rfl
       have qA_46 : Sl aA 46 (Value.int .i64 ((jj : Nat) : Int)) := hdpA 2 _ 46 (by kernel_rfl) rfl rfl
       clear hbsA hdpA
       refine op_slice_rd (lo := 0) (hi := jj) slt54 (ev_base hNA rfl qA_45) (Own.rdB hO6 hO6_s) (.inl ⟨rfl, rfl⟩) (.inr ⟨_, _, rfl, (ev_base hNA rfl qA_46)⟩) (by omega) (by omega) ?_
       intro v69 hR70
       have hR70 : RdC wA w.heap.size w25.heap.size 1 v69 jj ((((nrm (l.take i)).take jj)).map u16v) := by simpa [List.map_drop, List.map_take] using hR70
       exact obNc_end rfl ⟨v69, rfl, hR70, ⟨by omega, ge_of hvoA (fun k hk => by simp [Value.ownBlock] at hk) (by omega)⟩⟩ (grown_refl _ _)
      ·
       intro aA wA ccA cvA hNA hclA hRA hltA hvoA hbsA hdpA
       have qA_0 := (hbsA 0 rfl).trans (sl_base hN12 rfl s12_0)
       refine op_move (ev_base hNA rfl qA_0) ?_
       exact obNc_end rfl rfl (grown_refl _ _)
      ·
       intro aA wA ccA cvA hNA hclA hRA hltA hvoA hbsA hdpA
       have qA_4 := (hbsA 4 rfl).trans (sl_base hN12 rfl s12_4)
       refine op_move (ev_base hNA rfl qA_4) ?_
       exact obNc_end rfl rfl (grown_refl _ _)
      ·
       intro aA wA ccA cvA hNA hclA hRA hltA hvoA hbsA hdpA
       have hRA : w25.grownBy wA (Value.slice none 0 0).ownBlock := hRA
       have hnil_o := (Own.nil w25 w.heap.size 46 1)
       have z_wA := hRA.size
       have hb := below_stepO hb (Own.nil w25 w.heap.size 46 1) hRA hb.size (by omega)
       have hl := hl.keep0 hRA
       have hO6 := hO6.keep0 hRA
       have qA_49 : Sl aA 49 v := hdpA 5 _ 49 (by kernel_rfl) rfl rfl
       have qA_50 : Sl aA 50 (Value.int .i64 ((i : Nat) : Int)) := hdpA 6 _ 50 (by kernel_rfl) rfl rfl
       clear hbsA hdpA
       refine op_index_rd slt45 (ev_base hNA rfl qA_49) hl (ev_base hNA rfl qA_50) (by omega) (by omega) ?_
       intro b71 o72 h0b71 h1b71 hc73
       have hp74 : PtC wA 0 w.heap.size b71 o72 [(Value.int .u16 ((l.getD i 0).toNat : Int))] := ⟨by omega, by omega, fun j u hu => hc73 j u (by have := (List.getElem?_eq_some_iff.1 hu).1; simpa using this) ((fun j u hu => one_at (el_u16 (i := i) (by omega) (by omega)) hu) j u hu)⟩
       exact obNc_end rfl ⟨b71, o72, rfl, hp74, ⟨by omega, ge_of hvoA (fun k hk => by simp [Value.ownBlock] at hk) (by omega)⟩⟩ (grown_refl _ _)
      ·
       intro aA wA ccA cvA hNA hclA hRA hltA hvoA hbsA hdpA
       have hRA : w25.grownBy wA (Value.slice none 0 0).ownBlock := hRA
       have hnil_o := (Own.nil w25 w.heap.size 46 1)
       have z_wA := hRA.size
       have hb := below_stepO hb (Own.nil w25 w.heap.size 46 1) hRA hb.size (by omega)
       have hl := hl.keep0 hRA
       have hO6 := hO6.keep0 hRA
       obtain ⟨b82, o83, qA_51, hp85, xqA_51_0⟩ := hdpA 7 _ 51 (by kernel_rfl) rfl rfl
       have hp85 : PtC wA 0 w.heap.size b82 o83 [(Value.int .u16 ((l.getD i 0).toNat : Int))] := hp85
       clear hbsA hdpA
       refine op_load1 (v := (Value.int .u16 ((l.getD i 0).toNat : Int))) one46 (ev_base hNA rfl qA_51) (hp85.2.2 0 _ rfl) ?_
       exact obNc_end rfl rfl (grown_refl _ _)
      ·
       intro aA wA ccA cvA hNA hclA hRA hltA hvoA hbsA hdpA
       have hRA : w25.grownBy wA (Value.slice none 0 0).ownBlock := hRA
       have hnil_o := (Own.nil w25 w.heap.size 46 1)
       have z_wA := hRA.size
       have hb := below_stepO hb (Own.nil w25 w.heap.size 46 1) hRA hb.size (by omega)
       have hl := hl.keep0 hRA
       have hO6 := hO6.keep0 hRA
       have qA_52 : Sl aA 52 (Value.int .u16 ((l.getD i 0).toNat : Int)) := hdpA 8 _ 52 (by kernel_rfl) rfl rfl
       clear hbsA hdpA
       refine op_bslice (e := 46) (pv := [(0, (Value.int .u16 ((l.getD i 0).toNat : Int)))]) (cs := [(Value.int .u16 ((l.getD i 0).toNat : Int))]) ⟨rfl, (ev_base hNA rfl qA_52), trivial⟩ (by kernel_rfl) ?_
       intro w75 b76 lo_b76 hi_b76 hB78 E77
       have ne_b76_r : r.ownBlock ≠ some b76 := fun hh => by have := (hO6.lt _ hh).2; omega
       have z_w75 := E77.size
       have hl := hl.keep0 E77
       have hO6 := hO6.keep0 E77
       have hb := below_step0 hb E77 hb.size
       exact obNc_end rfl ⟨b76, rfl, (by omega), hB78, (fun hh => by have := hltA _ hh; omega)⟩ (E77)
      ·
       intro aA wA ccA cvA hNA hclA hRA hltA hvoA hbsA hdpA
       have qA_3 := (hbsA 3 rfl).trans (sl_base hN12 rfl s12_3)
       refine op_move (ev_base hNA rfl qA_3) ?_
       exact obNc_end rfl rfl (grown_refl _ _)
      ·
       intro aA wA ccA cvA hNA hclA hRA hltA hvoA hbsA hdpA
       have qA_5 := (hbsA 5 rfl).trans (sl_base hN12 rfl s12_5)
       refine op_move (ev_base hNA rfl qA_5) ?_
       exact obNc_end rfl rfl (grown_refl _ _)
      ·
       intro aA wA ccA cvA hNA hclA hRA hltA hvoA hbsA hdpA
       have hRA : w25.grownBy wA (Value.slice none 0 0).ownBlock := hRA
       have hnil_o := (Own.nil w25 w.heap.size 46 1)
       have z_wA := hRA.size
       have hb := below_stepO hb (Own.nil w25 w.heap.size 46 1) hRA hb.size (by omega)
       have hl := hl.keep0 hRA
       have hO6 := hO6.keep0 hRA
       have qA_55 : Sl aA 55 r := hdpA 11 _ 55 (by kernel_rfl) rfl rfl
       have qA_56 : Sl aA 56 (Value.int .i64 ((jj : Nat) : Int)) := hdpA 12 _ 56 (by kernel_rfl) rfl rfl
       clear hbsA hdpA
       refine op_slice_rd (lo := jj) (hi := (nrm (l.take i)).length) slt54 (ev_base hNA rfl qA_55) (Own.rdB hO6 hO6_s) (.inr ⟨_, _, rfl, (ev_base hNA rfl qA_56)⟩) (.inl ⟨rfl, rfl⟩) (by omega) (by omega) ?_
       intro v79 hR80
       have hR80 : RdC wA w.heap.size w25.heap.size 1 v79 ((nrm (l.take i)).length - jj) ((((nrm (l.take i)).drop jj)).map u16v) := by simpa [List.map_drop, List.map_take, List.take_of_length_le] using hR80
       exact obNc_end rfl ⟨v79, rfl, hR80, ⟨by omega, ge_of hvoA (fun k hk => by simp [Value.ownBlock] at hk) (by omega)⟩⟩ (grown_refl _ _)
      ·
       intro o_ ho_; obtain rfl := Option.some.inj ho_; intro aA wA cvA hNA hRA hcv0A hbsA hdpA hCA
       have hRA : w25.grownBy wA (Value.slice none 0 0).ownBlock := hRA
       have hnil_o := (Own.nil w25 w.heap.size 46 1)
       have z_wA := hRA.size
       have hb := below_stepO hb (Own.nil w25 w.heap.size 46 1) hRA hb.size (by omega)
       have hl := hl.keep0 hRA
       have hO6 := hO6.keep0 hRA
       have hcvA : (Value.slice none 0 0) = cvA := (hcv0A rfl).symm
       subst hcvA
       have hCA : Own wA w.heap.size 46 1 (Value.slice none 0 0) 0 ([]) := hCA
       clear hbsA hdpA
       refine op_bslice (e := 46) (pv := []) (cs := []) trivial (by kernel_rfl) ?_
       intro w81 b82 lo_b82 hi_b82 hB84 E83
       have ne_b82_r : r.ownBlock ≠ some b82 := fun hh => by have := (hO6.lt _ hh).2; omega
       have z_w81 := E83.size
       have hl := hl.keep0 E83
       have hO6 := hO6.keep0 E83
       have hCA := hCA.keep0 E83
       have hb := below_step0 hb E83 hb.size
       exact obCc_end rfl rfl (chP_now (w := w81)) (Own.ofBx (base := w.heap.size) (sz := 1) (n := 0) hB84 rfl (by decide) (by omega)) ⟨E83, .inr (fun k hk => by simp [Value.ownBlock] at hk; omega)⟩
      ·
       intro o_ ho_; obtain rfl := Option.some.inj ho_; intro aA wA cvA hNA hRA hcv0A hbsA hdpA hCA
       have hRA : w25.grownBy wA (Value.slice none 0 0).ownBlock := hRA
       have hnil_o := (Own.nil w25 w.heap.size 46 1)
       have z_wA := hRA.size
       have hb := below_stepO hb (Own.nil w25 w.heap.size 46 1) hRA hb.size (by omega)
       have hl := hl.keep0 hRA
       have hO6 := hO6.keep0 hRA
       have hCA : Own wA w.heap.size 46 1 cvA 0 ([]) := hCA
       have qA_44 : aA.tmps.getD 44 undef = cvA := (show chP 0 1 cvA (aA.tmps.getD 44 undef) wA from hdpA 0 _ 44 (by kernel_rfl) rfl rfl).2 rfl
       obtain ⟨v73, qA_47, hR74, xqA_47_0⟩ := hdpA 3 _ 47 (by kernel_rfl) rfl rfl
       have hR74 : RdC wA w.heap.size w25.heap.size 1 v73 jj ((((nrm (l.take i)).take jj)).map u16v) := hR74
       clear hbsA hdpA
       have hP90 := hCA
       refine op_append slt54 (ev_base hNA rfl qA_44) hP90 (ev_base hNA rfl qA_47) (Src.ofRd Try.underlying54 (by decide) hR74 (one_u16 _)) (by unfold maxLen; omega) (by omega) hb.size ?_
       intro v85 w86 hO88 E87 hm89
       have z_w86 := E87.size
       have hl := hl.keepO hP90 E87 (by omega)
       have hR74 := hR74.keep E87 (fun k hk => .inr (xqA_47_0.2 k hk))
       have hb := below_stepO hb hP90 E87 hb.size (by omega)
       have hO88 : Own w86 w.heap.size 46 1 v85 (0 + jj) ((((nrm (l.take i)).take jj)).map u16v) := by simpa [u8v, u16v, cellsV] using hO88
       exact obCc_end rfl rfl (chP_now (w := w86)) hO88 ⟨E87, hm89⟩
      ·
       intro o_ ho_; obtain rfl := Option.some.inj ho_; intro aA wA cvA hNA hRA hcv0A hbsA hdpA hCA
       have hRA : w25.grownBy wA (Value.slice none 0 0).ownBlock := hRA
       have hnil_o := (Own.nil w25 w.heap.size 46 1)
       have z_wA := hRA.size
       have hb := below_stepO hb (Own.nil w25 w.heap.size 46 1) hRA hb.size (by omega)
       have hl := hl.keep0 hRA
       have hO6 := hO6.keep0 hRA
       have hCA : Own wA w.heap.size 46 1 cvA (0 + jj) ((((nrm (l.take i)).take jj)).map u16v) := hCA
       have qA_48 : aA.tmps.getD 48 undef = cvA := (show chP 1 2 cvA (aA.tmps.getD 48 undef) wA from hdpA 4 _ 48 (by kernel_rfl) rfl rfl).2 rfl
       obtain ⟨b87, qA_53, loA_0, hB89, xqA_53_0⟩ := hdpA 9 _ 53 (by kernel_rfl) rfl rfl
       have hB89 : Bx wA b87 46 [(Value.int .u16 ((l.getD i 0).toNat : Int))] := hB89
       clear hbsA hdpA
       have hP96 := hCA
       refine op_append slt54 (ev_base hNA rfl qA_48) hP96 (ev_base hNA rfl qA_53) (Src.ofRd Try.underlying54 (by decide) (RdC.ofBx (sz := 1) (n := 1) hB89 rfl (by decide)) (by simp [Value.oneCell', u8v])) (by unfold maxLen; omega) (by omega) hb.size ?_
       intro v91 w92 hO94 E93 hm95
       have z_w92 := E93.size
       have hl := hl.keepO hP96 E93 (by omega)
       have hB89 := hB89.keep E93 (fun hh => xqA_53_0 hh.symm)
       have hb := below_stepO hb hP96 E93 hb.size (by omega)
       have hO94 : Own w92 w.heap.size 46 1 v91 ((0 + jj) + 1) (((((nrm (l.take i)).take jj) ++ [(l.getD i 0)])).map u16v) := by simpa [u8v, u16v, cellsV] using hO94
       exact obCc_end rfl rfl (chP_now (w := w92)) hO94 ⟨E93, hm95⟩
      ·
       intro a97 w97 v90 hN97 hd97 hbs97 hph97 hC97 E97 hm97
       have hd97 := hd97.trans hd12
       have s97_0 := (hbs97 0 rfl).trans (sl_base hN12 rfl s12_0)
       have s97_2 := (hbs97 2 rfl).trans (sl_base hN12 rfl s12_2)
       have s97_3 := (hbs97 3 rfl).trans (sl_base hN12 rfl s12_3)
       have s97_4 := (hbs97 4 rfl).trans (sl_base hN12 rfl s12_4)
       have s97_54 : a97.tmps.getD 54 undef = v90 := (show chP 2 3 v90 (a97.tmps.getD 54 undef) w97 from hph97 10 _ 54 rfl rfl).2 rfl
       obtain ⟨v97, s97_57, hR98, xq97_57_0⟩ := hph97 13 _ 57 rfl rfl
       have hR98 : RdC w97 w.heap.size w25.heap.size 1 v97 ((nrm (l.take i)).length - jj) ((((nrm (l.take i)).drop jj)).map u16v) := hR98
       clear hbs97 hph97
       have E97 : w25.grownBy w97 (Value.slice none 0 0).ownBlock := E97
       have hC97 : Own w97 w.heap.size 46 1 v90 ((0 + jj) + 1) (((((nrm (l.take i)).take jj) ++ [(l.getD i 0)])).map u16v) := hC97
       have dj98 : DJ r v90 := fun k hk hg => by have q1 := (hO6.lt k hk).2; rcases hm97 with h7 | h7; (rw [h7] at hg; simp [Value.ownBlock] at hg); (have := h7 k hg; omega)
       have E97 : w25.grownBy w97 none := E97
       have z_w97 := E97.size
       have hl := hl.keep0 E97
       have hO6 := hO6.keep0 E97
       have hb := below_step0 hb E97 hb.size
       refine split_end ?_
       refine from_seq (tl := [_, _]) (by decide) (by kernel_rfl) rfl ?_
       have hP104 := hC97
       refine op_append slt54 (ev_base hN97 rfl s97_54) hP104 (ev_base hN97 rfl s97_57) (Src.ofRd Try.underlying54 (by decide) hR98 (one_u16 _)) (by unfold maxLen; omega) (by omega) hb.size ?_
       intro v99 w100 hO102 E101 hm103
       have dj105 : DJ r v99 := DJ.step hm103 (fun k hk => (hO6.lt k hk).2) dj98
       have z_w100 := E101.size
       have hl := hl.keepO hP104 E101 (by omega)
       have hO6 := hO6.keepD E101 dj98
       have hR98 := hR98.keep E101 (fun k hk => .inr (xq97_57_0.2 k hk))
       have hb := below_stepO hb hP104 E101 hb.size (by omega)
       have hO102 : Own w100 w.heap.size 46 1 v99 (((0 + jj) + 1) + ((nrm (l.take i)).length - jj)) ((((((nrm (l.take i)).take jj) ++ [(l.getD i 0)]) ++ ((nrm (l.take i)).drop jj))).map u16v) := by simpa [u8v, u16v, cellsV] using hO102
       refine op_assign (ev_hit hN97 rfl) ?_
       refine reg_nil ?_
       refine hK9 _ _ ?_
       refine one_reg ?_
       refine op_move (ev_base hN97 rfl s97_4) ?_
       refine op_add (ev_hit hN97 rfl) rfl (add64 (by omega)) ?_
       refine op_assign (ev_hit hN97 rfl) ?_
       refine reg_nil ?_
       -- round 9T 15T 26F 32F 43T
       have hins := insT_at (x := l.getD i 0) (acc := (nrm (l.take i))) (j := jj) hlt (by omega) (by omega)
       exact loop_next _ hN97 hd97 ⟨i + 1, _, rfl, (sl_base hN97 rfl s97_0), (sl_base hN97 rfl s97_2), (sl_hit hN97 rfl).trans (congrArg (Value.int .i64) (by omega)), (sl_hit hN97 rfl), (by omega), (nrm_len (by omega)), hb, (by omega), hl, (hO102.cast (by rw [take_nrm (by omega), hins.2 (.inr (fun e => c43 (by rw [e])))]; simp; omega) (by rw [take_nrm (by omega), hins.2 (.inr (fun e => c43 (by rw [e])))]; try simp [u16v]))⟩ (by omega)
     · -- 43F
      have c43 := of_decide_eq_false c43
      refine wp_skip ?_
      refine hK9 _ _ ?_
      refine one_reg ?_
      refine op_move (ev_base hN12 rfl s12_4) ?_
      refine op_add (ev_hit hN12 rfl) rfl (add64 (by omega)) ?_
      refine op_assign (ev_hit hN12 rfl) ?_
      refine reg_nil ?_
      -- round 9T 15T 26F 32F 43F
      have hins := insT_at (x := l.getD i 0) (acc := (nrm (l.take i))) (j := jj) hlt (by omega) (by omega)
      exact loop_next _ hN12 hd12 ⟨i + 1, _, rfl, (sl_base hN12 rfl s12_0), (sl_base hN12 rfl s12_2), (sl_hit hN12 rfl).trans (congrArg (Value.int .i64) (by omega)), (sl_base hN12 rfl s12_3), (by omega), (nrm_len (by omega)), hb, (by omega), hl, (hO6.cast (by rw [take_nrm (by omega), hins.1 ⟨by omega, u16_eq (by omega)⟩]) (by rw [take_nrm (by omega), hins.1 ⟨by omega, u16_eq (by omega)⟩]))⟩ (by omega)
  · -- 15F
   refine st_step rfl (fun _ h9 => op_cmp (b := false) (ev_hit hN12 rfl) (ev_hit hN12 rfl) (b_lss (decide_eq_false g15)) h9) ?_
   refine st_step rfl (fun _ h9 => op_move (ev_hit hN12 rfl) h9) ?_
   refine st_g_false (j := 4) (dj := 16) (b := true) rfl rfl rfl (ev_hit hN12 rfl) rfl rfl ?_
   refine st_g_false (j := 4) (dj := 16) (b := true) rfl rfl rfl (ev_hit hN12 rfl) rfl rfl ?_
   refine st_g_false (j := 4) (dj := 16) (b := true) rfl rfl rfl (ev_hit hN12 rfl) rfl rfl ?_
   refine st_g_false (j := 4) (dj := 16) (b := true) rfl rfl rfl (ev_hit hN12 rfl) rfl rfl ?_
   refine st_g_false (j := 4) (dj := 16) (b := true) rfl rfl rfl (ev_hit hN12 rfl) rfl rfl ?_
   refine st_g_false (j := 4) (dj := 16) (b := true) rfl rfl rfl (ev_hit hN12 rfl) rfl rfl ?_
   refine st_g_false (j := 4) (dj := 16) (b := true) rfl rfl rfl (ev_hit hN12 rfl) rfl rfl ?_
   refine st_g_false (j := 4) (dj := 16) (b := true) rfl rfl rfl (ev_hit hN12 rfl) rfl rfl ?_
   refine st_g_false (j := 4) (dj := 16) (b := true) rfl rfl rfl (ev_hit hN12 rfl) rfl rfl ?_
   refine st_step rfl (fun _ h9 => op_pick_f (ev_hit hN12 rfl) rfl h9) ?_
   refine st_nil ?_
   refine hK14 _ _ ?_
   refine wp_cond_false (ev_hit hN12 rfl) ?_
   refine wp_exit (then_exit (then_exit (blk_hit ?_)))
   refine hK11 _ _ ?_
   refine seq_any fun K106 hK106 => ?_
   refine reg_still mixed (by kernel_rfl) ?_
   intro w108 E107
   have z_w108 := E107.size
   have hl := hl.keep0 E107
   have hO6 := hO6.keep0 E107
   have hb := below_step0 hb E107 hb.size
   refine st_step rfl (fun _ h9 => op_move (ev_base hN12 rfl s12_5) h9) ?_
   refine st_step rfl (fun _ h9 => op_move (ev_base hN12 rfl s12_3) h9) ?_
   refine st_step rfl (fun _ h9 => op_len_rd Try.underlying54 (ev_hit hN12 rfl) hO6.rdw h9) ?_
   by_cases g32 : ((jj : Nat) : Int) = (((nrm (l.take i)).length : Nat) : Int)
   · -- 32T
    refine st_step rfl (fun _ h9 => op_cmp (b := true) (ev_hit hN12 rfl) (ev_hit hN12 rfl) (b_eql (decide_eq_true g32)) h9) ?_
    refine st_step rfl (fun _ h9 => op_move (ev_hit hN12 rfl) h9) ?_
    refine st_g_false (j := 4) (dj := 33) (b := false) rfl rfl rfl (ev_hit hN12 rfl) rfl rfl ?_
    refine st_g_false (j := 4) (dj := 33) (b := false) rfl rfl rfl (ev_hit hN12 rfl) rfl rfl ?_
    refine st_g_false (j := 4) (dj := 33) (b := false) rfl rfl rfl (ev_hit hN12 rfl) rfl rfl ?_
    refine st_g_false (j := 4) (dj := 33) (b := false) rfl rfl rfl (ev_hit hN12 rfl) rfl rfl ?_
    refine st_g_false (j := 4) (dj := 33) (b := false) rfl rfl rfl (ev_hit hN12 rfl) rfl rfl ?_
    refine st_g_false (j := 4) (dj := 33) (b := false) rfl rfl rfl (ev_hit hN12 rfl) rfl rfl ?_
    refine st_g_false (j := 4) (dj := 33) (b := false) rfl rfl rfl (ev_hit hN12 rfl) rfl rfl ?_
    refine st_g_false (j := 4) (dj := 33) (b := false) rfl rfl rfl (ev_hit hN12 rfl) rfl rfl ?_
    refine st_g_false (j := 4) (dj := 33) (b := false) rfl rfl rfl (ev_hit hN12 rfl) rfl rfl ?_
    refine st_step rfl (fun _ h9 => op_pick_t (ev_hit hN12 rfl) rfl h9) ?_
    refine st_nil ?_
    refine hK106 _ _ ?_
    refine wp_cond_true (ev_hit hN12 rfl) ?_
    have hO6_s := hO6
    refine reg_split (hd := [_, _, _, _, _, _, _, _, _, _, _, _, _, _]) (tl := _) 14 mixed (by kernel_rfl) rfl rfl ?_
    refine any_chain (Φ := phiC [chP 0, (fun _ _ uz _ => uz = r), (fun _ _ uz _ => uz = (Value.int .i64 ((jj : Nat) : Int))), (fun _ vz uz w' => ∃ (v113 : Value), uz = v113 ∧ RdC w' w.heap.size w108.heap.size 1 v113 jj ((((nrm (l.take i)).take jj)).map u16v) ∧ (w108.heap.size ≤ w'.heap.size ∧ ∀ k, vz.ownBlock = some k → w108.heap.size ≤ k)), chP 1, (fun _ _ uz _ => uz = v), (fun _ _ uz _ => uz = (Value.int .i64 ((i : Nat) : Int))), (fun _ vz uz w' => ∃ (b122 : (Nat)) (o123 : (Nat)), uz = (ptr b122 o123) ∧ PtC w' 0 w.heap.size b122 o123 [(Value.int .u16 ((l.getD i 0).toNat : Int))] ∧ (w.heap.size ≤ w'.heap.size ∧ ∀ k, vz.ownBlock = some k → w.heap.size ≤ k)), (fun _ _ uz _ => uz = (Value.int .u16 ((l.getD i 0).toNat : Int))), (fun _ vz uz w' => ∃ (b127 : Nat), uz = (Value.slice (some ⟨b127, 0, none⟩) 1 1) ∧ w108.heap.size ≤ b127 ∧ Bx w' b127 46 [(Value.int .u16 ((l.getD i 0).toNat : Int))] ∧ vz.ownBlock ≠ some b127), chP 2, (fun _ _ uz _ => uz = r), (fun _ _ uz _ => uz = (Value.int .i64 ((jj : Nat) : Int))), (fun _ vz uz w' => ∃ (v137 : Value), uz = v137 ∧ RdC w' w.heap.size w108.heap.size 1 v137 ((nrm (l.take i)).length - jj) ((((nrm (l.take i)).drop jj)).map u16v) ∧ (w108.heap.size ≤ w'.heap.size ∧ ∀ k, vz.ownBlock = some k → w108.heap.size ≤ k))]) (C := CL [(fun vz w' => Own w' w.heap.size 46 1 vz 0 ([])), (fun vz w' => Own w' w.heap.size 46 1 vz 0 ([])), (fun vz w' => Own w' w.heap.size 46 1 vz (0 + jj) ((((nrm (l.take i)).take jj)).map u16v)), (fun vz w' => Own w' w.heap.size 46 1 vz ((0 + jj) + 1) (((((nrm (l.take i)).take jj) ++ [(l.getD i 0)])).map u16v))]) ⟨[0, 4, 10], fun c => [60, 44, 48, 54].getD c 60⟩ (Value.slice none 0 0) (by kernel_rfl) (by kernel_rfl) (by kernel_rfl) (by kernel_rfl) hN12 (StK.get0 (n := 3) (StK.ch (StK.eq (StK.eq (StK.cons (fun c v u w1 w2 E h => by obtain ⟨x0, hv, f0, q0⟩ := h; exact ⟨x0, hv, f0.keep0 E, ⟨Nat.le_trans q0.1 E.size, q0.2⟩⟩) (fun c v v' u w1 w2 _ E h => by obtain ⟨x0, hv, f0, q0⟩ := h; exact ⟨x0, hv, f0.keep E.1 (fun k hk => .inr (q0.2 k hk)), ⟨Nat.le_trans q0.1 E.1.size, ge_step E q0.1 q0.2⟩⟩) (StK.ch (StK.eq (StK.eq (StK.cons (fun c v u w1 w2 E h => by obtain ⟨x0, x1, hv, f0, q0⟩ := h; exact ⟨x0, x1, hv, f0.keep0 E, ⟨Nat.le_trans q0.1 E.size, q0.2⟩⟩) (fun c v v' u w1 w2 _ E h => by obtain ⟨x0, x1, hv, f0, q0⟩ := h; exact ⟨x0, x1, hv, f0.keep E.1 (fun k hk => .inr (q0.2 k hk)), ⟨Nat.le_trans q0.1 E.1.size, ge_step E q0.1 q0.2⟩⟩) (StK.eq (StK.cons (fun c v u w1 w2 E h => by obtain ⟨x0, hv, l0, f0, q0⟩ := h; exact ⟨x0, hv, l0, f0.keep0 E, q0⟩) (fun c v v' u w1 w2 _ E h => by obtain ⟨x0, hv, l0, f0, q0⟩ := h; exact ⟨x0, hv, l0, f0.keep E.1 (fun hh => q0 hh.symm), ne_step E f0.lt q0⟩) (StK.ch (StK.eq (StK.eq (StK.cons (fun c v u w1 w2 E h => by obtain ⟨x0, hv, f0, q0⟩ := h; exact ⟨x0, hv, f0.keep0 E, ⟨Nat.le_trans q0.1 E.size, q0.2⟩⟩) (fun c v v' u w1 w2 _ E h => by obtain ⟨x0, hv, f0, q0⟩ := h; exact ⟨x0, hv, f0.keep E.1 (fun k hk => .inr (q0.2 k hk)), ⟨Nat.le_trans q0.1 E.1.size, ge_step E q0.1 q0.2⟩⟩) (StK.nil)))))))))))))))) (StK.get1 (n := 3) (StK.ch (StK.eq (StK.eq (StK.cons (fun c v u w1 w2 E h => by obtain ⟨x0, hv, f0, q0⟩ := h; exact ⟨x0, hv, f0.keep0 E, ⟨Nat.le_trans q0.1 E.size, q0.2⟩⟩) (fun c v v' u w1 w2 _ E h => by obtain ⟨x0, hv, f0, q0⟩ := h; exact ⟨x0, hv, f0.keep E.1 (fun k hk => .inr (q0.2 k hk)), ⟨Nat.le_trans q0.1 E.1.size, ge_step E q0.1 q0.2⟩⟩) (StK.ch (StK.eq (StK.eq (StK.cons (fun c v u w1 w2 E h => by obtain ⟨x0, x1, hv, f0, q0⟩ := h; exact ⟨x0, x1, hv, f0.keep0 E, ⟨Nat.le_trans q0.1 E.size, q0.2⟩⟩) (fun c v v' u w1 w2 _ E h => by obtain ⟨x0, x1, hv, f0, q0⟩ := h; exact ⟨x0, x1, hv, f0.keep E.1 (fun k hk => .inr (q0.2 k hk)), ⟨Nat.le_trans q0.1 E.1.size, ge_step E q0.1 q0.2⟩⟩) (StK.eq (StK.cons (fun c v u w1 w2 E h => by obtain ⟨x0, hv, l0, f0, q0⟩ := h; exact ⟨x0, hv, l0, f0.keep0 E, q0⟩) (fun c v v' u w1 w2 _ E h => by obtain ⟨x0, hv, l0, f0, q0⟩ := h; exact ⟨x0, hv, l0, f0.keep E.1 (fun hh => q0 hh.symm), ne_step E f0.lt q0⟩) (StK.ch (StK.eq (StK.eq (StK.cons (fun c v u w1 w2 E h => by obtain ⟨x0, hv, f0, q0⟩ := h; exact ⟨x0, hv, f0.keep0 E, ⟨Nat.le_trans q0.1 E.size, q0.2⟩⟩) (fun c v v' u w1 w2 _ E h => by obtain ⟨x0, hv, f0, q0⟩ := h; exact ⟨x0, hv, f0.keep E.1 (fun k hk => .inr (q0.2 k hk)), ⟨Nat.le_trans q0.1 E.1.size, ge_step E q0.1 q0.2⟩⟩) (StK.nil)))))))))))))))) (StL2.get0 (StL2.own (StL2.own (StL2.own (StL2.own (StL2.nil)))))) (StL2.get1 (StL2.own (StL2.own (StL2.own (StL2.own (StL2.nil)))))) (Own.nil w108 w.heap.size 46 1) (ObLn.get (ObLn.pass rfl (ObLn.cons ?_ (ObLn.cons ?_ (ObLn.cons ?_ (ObLn.pass rfl (ObLn.cons ?_ (ObLn.cons ?_ (ObLn.cons ?_ (ObLn.cons ?_ (ObLn.cons ?_ (ObLn.pass rfl (ObLn.cons ?_ (ObLn.cons ?_ (ObLn.cons ?_ (ObLn.nil)))))))))))))))) (ObLc.get (ObLc.cons ?_ (ObLc.cons ?_ (ObLc.cons ?_ (ObLc.nil))))) ?_
    ·
     intro aA wA ccA cvA hNA hclA hRA hltA hvoA hbsA hdpA
     have qA_3 := (hbsA 3 rfl).trans (sl_base hN12 rfl s12_3)
     refine op_move (ev_base hNA rfl qA_3) ?_
     exact obNc_end rfl rfl (grown_refl _ _)
    ·
     intro aA wA ccA cvA hNA hclA hRA hltA hvoA hbsA hdpA
     have qA_5 := (hbsA 5 rfl).trans (sl_base hN12 rfl s12_5)
     refine op_move (ev_base hNA rfl qA_5) ?_
     exact obNc_end rfl rfl (grown_refl _ _)
    ·
     intro aA wA ccA cvA hNA hclA hRA hltA hvoA hbsA hdpA
     have hRA : w108.grownBy wA (Value.slice none 0 0).ownBlock := hRA
     have hnil_o := (Own.nil w108 w.heap.size 46 1)
     have z_wA := hRA.size
     have hb := below_stepO hb (Own.nil w108 w.heap.size 46 1) hRA hb.size (by omega)
     have hl := hl.keep0 hRA
     have hO6 := hO6.keep0 hRA
     have qA_45 : Sl aA 45 r := hdpA 1 _ 45 (by kernel_rfl) rfl rfl
     have qA_46 : Sl aA 46 (Value.int .i64 ((jj : Nat) : Int)) := hdpA 2 _ 46 (by kernel_rfl) rfl rfl
     clear hbsA hdpA
     refine op_slice_rd (lo := 0) (hi := jj) slt54 (ev_base hNA rfl qA_45) (Own.rdB hO6 hO6_s) (.inl ⟨rfl, rfl⟩) (.inr ⟨_, _, rfl, (ev_base hNA rfl qA_46)⟩) (by omega) (by omega) ?_
     intro v109 hR110
     have hR110 : RdC wA w.heap.size w108.heap.size 1 v109 jj ((((nrm (l.take i)).take jj)).map u16v) := by simpa [List.map_drop, List.map_take] using hR110
     exact obNc_end rfl ⟨v109, rfl, hR110, ⟨by omega, ge_of hvoA (fun k hk => by simp [Value.ownBlock] at hk) (by omega)⟩⟩ (grown_refl _ _)
    ·
     intro aA wA ccA cvA hNA hclA hRA hltA hvoA hbsA hdpA
     have qA_0 := (hbsA 0 rfl).trans (sl_base hN12 rfl s12_0)
     refine op_move (ev_base hNA rfl qA_0) ?_
     exact obNc_end rfl rfl (grown_refl _ _)
    ·
     intro aA wA ccA cvA hNA hclA hRA hltA hvoA hbsA hdpA
     have qA_4 := (hbsA 4 rfl).trans (sl_base hN12 rfl s12_4)
     refine op_move (ev_base hNA rfl qA_4) ?_
     exact obNc_end rfl rfl (grown_refl _ _)
    ·
     intro aA wA ccA cvA hNA hclA hRA hltA hvoA hbsA hdpA
     have hRA : w108.grownBy wA (Value.slice none 0 0).ownBlock := hRA
     have hnil_o := (Own.nil w108 w.heap.size 46 1)
     have z_wA := hRA.size
     have hb := below_stepO hb (Own.nil w108 w.heap.size 46 1) hRA hb.size (by omega)
     have hl := hl.keep0 hRA
     have hO6 := hO6.keep0 hRA
     have qA_49 : Sl aA 49 v := hdpA 5 _ 49 (by kernel_rfl) rfl rfl
     have qA_50 : Sl aA 50 (Value.int .i64 ((i : Nat) : Int)) := hdpA 6 _ 50 (by kernel_rfl) rfl rfl
     clear hbsA hdpA
     refine op_index_rd slt45 (ev_base hNA rfl qA_49) hl (ev_base hNA rfl qA_50) (by omega) (by omega) ?_
     intro b111 o112 h0b111 h1b111 hc113
     have hp114 : PtC wA 0 w.heap.size b111 o112 [(Value.int .u16 ((l.getD i 0).toNat : Int))] := ⟨by omega, by omega, fun j u hu => hc113 j u (by have := (List.getElem?_eq_some_iff.1 hu).1; simpa using this) ((fun j u hu => one_at (el_u16 (i := i) (by omega) (by omega)) hu) j u hu)⟩
     exact obNc_end rfl ⟨b111, o112, rfl, hp114, ⟨by omega, ge_of hvoA (fun k hk => by simp [Value.ownBlock] at hk) (by omega)⟩⟩ (grown_refl _ _)
    ·
     intro aA wA ccA cvA hNA hclA hRA hltA hvoA hbsA hdpA
     have hRA : w108.grownBy wA (Value.slice none 0 0).ownBlock := hRA
     have hnil_o := (Own.nil w108 w.heap.size 46 1)
     have z_wA := hRA.size
     have hb := below_stepO hb (Own.nil w108 w.heap.size 46 1) hRA hb.size (by omega)
     have hl := hl.keep0 hRA
     have hO6 := hO6.keep0 hRA
     obtain ⟨b122, o123, qA_51, hp125, xqA_51_0⟩ := hdpA 7 _ 51 (by kernel_rfl) rfl rfl
     have hp125 : PtC wA 0 w.heap.size b122 o123 [(Value.int .u16 ((l.getD i 0).toNat : Int))] := hp125
     clear hbsA hdpA
     refine op_load1 (v := (Value.int .u16 ((l.getD i 0).toNat : Int))) one46 (ev_base hNA rfl qA_51) (hp125.2.2 0 _ rfl) ?_
     exact obNc_end rfl rfl (grown_refl _ _)
    ·
     intro aA wA ccA cvA hNA hclA hRA hltA hvoA hbsA hdpA
     have hRA : w108.grownBy wA (Value.slice none 0 0).ownBlock := hRA
     have hnil_o := (Own.nil w108 w.heap.size 46 1)
     have z_wA := hRA.size
     have hb := below_stepO hb (Own.nil w108 w.heap.size 46 1) hRA hb.size (by omega)
     have hl := hl.keep0 hRA
     have hO6 := hO6.keep0 hRA
     have qA_52 : Sl aA 52 (Value.int .u16 ((l.getD i 0).toNat : Int)) := hdpA 8 _ 52 (by kernel_rfl) rfl rfl
     clear hbsA hdpA
     refine op_bslice (e := 46) (pv := [(0, (Value.int .u16 ((l.getD i 0).toNat : Int)))]) (cs := [(Value.int .u16 ((l.getD i 0).toNat : Int))]) ⟨rfl, (ev_base hNA rfl qA_52), trivial⟩ (by kernel_rfl) ?_
     intro w115 b116 lo_b116 hi_b116 hB118 E117
     have ne_b116_r : r.ownBlock ≠ some b116 := fun hh => by have := (hO6.lt _ hh).2; omega
     have z_w115 := E117.size
     have hl := hl.keep0 E117
     have hO6 := hO6.keep0 E117
     have hb := below_step0 hb E117 hb.size
     exact obNc_end rfl ⟨b116, rfl, (by omega), hB118, (fun hh => by have := hltA _ hh; omega)⟩ (E117)
    ·
     intro aA wA ccA cvA hNA hclA hRA hltA hvoA hbsA hdpA
     have qA_3 := (hbsA 3 rfl).trans (sl_base hN12 rfl s12_3)
     refine op_move (ev_base hNA rfl qA_3) ?_
     exact obNc_end rfl rfl (grown_refl _ _)
    ·
     intro aA wA ccA cvA hNA hclA hRA hltA hvoA hbsA hdpA
     have qA_5 := (hbsA 5 rfl).trans (sl_base hN12 rfl s12_5)
     refine op_move (ev_base hNA rfl qA_5) ?_
     exact obNc_end rfl rfl (grown_refl _ _)
    ·
     intro aA wA ccA cvA hNA hclA hRA hltA hvoA hbsA hdpA
     have hRA : w108.grownBy wA (Value.slice none 0 0).ownBlock := hRA
     have hnil_o := (Own.nil w108 w.heap.size 46 1)
     have z_wA := hRA.size
     have hb := below_stepO hb (Own.nil w108 w.heap.size 46 1) hRA hb.size (by omega)
     have hl := hl.keep0 hRA
     have hO6 := hO6.keep0 hRA
     have qA_55 : Sl aA 55 r := hdpA 11 _ 55 (by kernel_rfl) rfl rfl
     have qA_56 : Sl aA 56 (Value.int .i64 ((jj : Nat) : Int)) := hdpA 12 _ 56 (by kernel_rfl) rfl rfl
     clear hbsA hdpA
     refine op_slice_rd (lo := jj) (hi := (nrm (l.take i)).length) slt54 (ev_base hNA rfl qA_55) (Own.rdB hO6 hO6_s) (.inr ⟨_, _, rfl, (ev_base hNA rfl qA_56)⟩) (.inl ⟨rfl, rfl⟩) (by omega) (by omega) ?_
     intro v119 hR120
     have hR120 : RdC wA w.heap.size w108.heap.size 1 v119 ((nrm (l.take i)).length - jj) ((((nrm (l.take i)).drop jj)).map u16v) := by simpa [List.map_drop, List.map_take, List.take_of_length_le] using hR120
     exact obNc_end rfl ⟨v119, rfl, hR120, ⟨by omega, ge_of hvoA (fun k hk => by simp [Value.ownBlock] at hk) (by omega)⟩⟩ (grown_refl _ _)
    ·
     intro o_ ho_; obtain rfl := Option.some.inj ho_; intro aA wA cvA hNA hRA hcv0A hbsA hdpA hCA
     have hRA : w108.grownBy wA (Value.slice none 0 0).ownBlock := hRA
     have hnil_o := (Own.nil w108 w.heap.size 46 1)
     have z_wA := hRA.size
     have hb := below_stepO hb (Own.nil w108 w.heap.size 46 1) hRA hb.size (by omega)
     have hl := hl.keep0 hRA
     have hO6 := hO6.keep0 hRA
     have hcvA : (Value.slice none 0 0) = cvA := (hcv0A rfl).symm
     subst hcvA
     have hCA : Own wA w.heap.size 46 1 (Value.slice none 0 0) 0 ([]) := hCA
     clear hbsA hdpA
     refine op_bslice (e := 46) (pv := []) (cs := []) trivial (by kernel_rfl) ?_
     intro w121 b122 lo_b122 hi_b122 hB124 E123
     have ne_b122_r : r.ownBlock ≠ some b122 := fun hh => by have := (hO6.lt _ hh).2; omega
     have z_w121 := E123.size
     have hl := hl.keep0 E123
     have hO6 := hO6.keep0 E123
     have hCA := hCA.keep0 E123
     have hb := below_step0 hb E123 hb.size
     exact obCc_end rfl rfl (chP_now (w := w121)) (Own.ofBx (base := w.heap.size) (sz := 1) (n := 0) hB124 rfl (by decide) (by omega)) ⟨E123, .inr (fun k hk => by simp [Value.ownBlock] at hk; omega)⟩
    ·
     intro o_ ho_; obtain rfl := Option.some.inj ho_; intro aA wA cvA hNA hRA hcv0A hbsA hdpA hCA
     have hRA : w108.grownBy wA (Value.slice none 0 0).ownBlock := hRA
     have hnil_o := (Own.nil w108 w.heap.size 46 1)
     have z_wA := hRA.size
     have hb := below_stepO hb (Own.nil w108 w.heap.size 46 1) hRA hb.size (by omega)
     have hl := hl.keep0 hRA
     have hO6 := hO6.keep0 hRA
     have hCA : Own wA w.heap.size 46 1 cvA 0 ([]) := hCA
     have qA_44 : aA.tmps.getD 44 undef = cvA := (show chP 0 1 cvA (aA.tmps.getD 44 undef) wA from hdpA 0 _ 44 (by kernel_rfl) rfl rfl).2 rfl
     obtain ⟨v113, qA_47, hR114, xqA_47_0⟩ := hdpA 3 _ 47 (by kernel_rfl) rfl rfl
     have hR114 : RdC wA w.heap.size w108.heap.size 1 v113 jj ((((nrm (l.take i)).take jj)).map u16v) := hR114
     clear hbsA hdpA
     have hP130 := hCA
     refine op_append slt54 (ev_base hNA rfl qA_44) hP130 (ev_base hNA rfl qA_47) (Src.ofRd Try.underlying54 (by decide) hR114 (one_u16 _)) (by unfold maxLen; omega) (by omega) hb.size ?_
     intro v125 w126 hO128 E127 hm129
     have z_w126 := E127.size
     have hl := hl.keepO hP130 E127 (by omega)
     have hR114 := hR114.keep E127 (fun k hk => .inr (xqA_47_0.2 k hk))
     have hb := below_stepO hb hP130 E127 hb.size (by omega)
     have hO128 : Own w126 w.heap.size 46 1 v125 (0 + jj) ((((nrm (l.take i)).take jj)).map u16v) := by simpa [u8v, u16v, cellsV] using hO128
     exact obCc_end rfl rfl (chP_now (w := w126)) hO128 ⟨E127, hm129⟩
    ·
     intro o_ ho_; obtain rfl := Option.some.inj ho_; intro aA wA cvA hNA hRA hcv0A hbsA hdpA hCA
     have hRA : w108.grownBy wA (Value.slice none 0 0).ownBlock := hRA
     have hnil_o := (Own.nil w108 w.heap.size 46 1)
     have z_wA := hRA.size
     have hb := below_stepO hb (Own.nil w108 w.heap.size 46 1) hRA hb.size (by omega)
     have hl := hl.keep0 hRA
     have hO6 := hO6.keep0 hRA
     have hCA : Own wA w.heap.size 46 1 cvA (0 + jj) ((((nrm (l.take i)).take jj)).map u16v) := hCA
     have qA_48 : aA.tmps.getD 48 undef = cvA := (show chP 1 2 cvA (aA.tmps.getD 48 undef) wA from hdpA 4 _ 48 (by kernel_rfl) rfl rfl).2 rfl
     obtain ⟨b127, qA_53, loA_0, hB129, xqA_53_0⟩ := hdpA 9 _ 53 (by kernel_rfl) rfl rfl
     have hB129 : Bx wA b127 46 [(Value.int .u16 ((l.getD i 0).toNat : Int))] := hB129
     clear hbsA hdpA
     have hP136 := hCA
     refine op_append slt54 (ev_base hNA rfl qA_48) hP136 (ev_base hNA rfl qA_53) (Src.ofRd Try.underlying54 (by decide) (RdC.ofBx (sz := 1) (n := 1) hB129 rfl (by decide)) (by simp [Value.oneCell', u8v])) (by unfold maxLen; omega) (by omega) hb.size ?_
     intro v131 w132 hO134 E133 hm135
     have z_w132 := E133.size
     have hl := hl.keepO hP136 E133 (by omega)
     have hB129 := hB129.keep E133 (fun hh => xqA_53_0 hh.symm)
     have hb := below_stepO hb hP136 E133 hb.size (by omega)
     have hO134 : Own w132 w.heap.size 46 1 v131 ((0 + jj) + 1) (((((nrm (l.take i)).take jj) ++ [(l.getD i 0)])).map u16v) := by simpa [u8v, u16v, cellsV] using hO134
     exact obCc_end rfl rfl (chP_now (w := w132)) hO134 ⟨E133, hm135⟩
    ·
     intro a137 w137 v130 hN137 hd137 hbs137 hph137 hC137 E137 hm137
     have hd137 := hd137.trans hd12
     have s137_0 := (hbs137 0 rfl).trans (sl_base hN12 rfl s12_0)
     have s137_2 := (hbs137 2 rfl).trans (sl_base hN12 rfl s12_2)
     have s137_3 := (hbs137 3 rfl).trans (sl_base hN12 rfl s12_3)
     have s137_4 := (hbs137 4 rfl).trans (sl_base hN12 rfl s12_4)
     have s137_54 : a137.tmps.getD 54 undef = v130 := (show chP 2 3 v130 (a137.tmps.getD 54 undef) w137 from hph137 10 _ 54 rfl rfl).2 rfl
     obtain ⟨v137, s137_57, hR138, xq137_57_0⟩ := hph137 13 _ 57 rfl rfl
     have hR138 : RdC w137 w.heap.size w108.heap.size 1 v137 ((nrm (l.take i)).length - jj) ((((nrm (l.take i)).drop jj)).map u16v) := hR138
     clear hbs137 hph137
     have E137 : w108.grownBy w137 (Value.slice none 0 0).ownBlock := E137
     have hC137 : Own w137 w.heap.size 46 1 v130 ((0 + jj) + 1) (((((nrm (l.take i)).take jj) ++ [(l.getD i 0)])).map u16v) := hC137
     have dj138 : DJ r v130 := fun k hk hg => by have q1 := (hO6.lt k hk).2; rcases hm137 with h7 | h7; (rw [h7] at hg; simp [Value.ownBlock] at hg); (have := h7 k hg; omega)
     have E137 : w108.grownBy w137 none := E137
     have z_w137 := E137.size
     have hl := hl.keep0 E137
     have hO6 := hO6.keep0 E137
     have hb := below_step0 hb E137 hb.size
     refine split_end ?_
     refine from_seq (tl := [_, _]) (by decide) (by kernel_rfl) rfl ?_
     have hP144 := hC137
     refine op_append slt54 (ev_base hN137 rfl s137_54) hP144 (ev_base hN137 rfl s137_57) (Src.ofRd Try.underlying54 (by decide) hR138 (one_u16 _)) (by unfold maxLen; omega) (by omega) hb.size ?_
     intro v139 w140 hO142 E141 hm143
     have dj145 : DJ r v139 := DJ.step hm143 (fun k hk => (hO6.lt k hk).2) dj138
     have z_w140 := E141.size
     have hl := hl.keepO hP144 E141 (by omega)
     have hO6 := hO6.keepD E141 dj138
     have hR138 := hR138.keep E141 (fun k hk => .inr (xq137_57_0.2 k hk))
     have hb := below_stepO hb hP144 E141 hb.size (by omega)
     have hO142 : Own w140 w.heap.size 46 1 v139 (((0 + jj) + 1) + ((nrm (l.take i)).length - jj)) ((((((nrm (l.take i)).take jj) ++ [(l.getD i 0)]) ++ ((nrm (l.take i)).drop jj))).map u16v) := by simpa [u8v, u16v, cellsV] using hO142
     refine op_assign (ev_hit hN137 rfl) ?_
     refine reg_nil ?_
     refine hK9 _ _ ?_
     refine one_reg ?_
     refine op_move (ev_base hN137 rfl s137_4) ?_
     refine op_add (ev_hit hN137 rfl) rfl (add64 (by omega)) ?_
     refine op_assign (ev_hit hN137 rfl) ?_
     refine reg_nil ?_
     -- round 9T 15F 32T
     have hins := insT_at (x := l.getD i 0) (acc := (nrm (l.take i))) (j := jj) hlt (by omega) (by omega)
     exact loop_next _ hN137 hd137 ⟨i + 1, _, rfl, (sl_base hN137 rfl s137_0), (sl_base hN137 rfl s137_2), (sl_hit hN137 rfl).trans (congrArg (Value.int .i64) (by omega)), (sl_hit hN137 rfl), (by omega), (nrm_len (by omega)), hb, (by omega), hl, (hO142.cast (by rw [take_nrm (by omega), hins.2 (.inl (by omega))]; simp; omega) (by rw [take_nrm (by omega), hins.2 (.inl (by omega))]; try simp [u16v]))⟩ (by omega)
   · -- 32F
    refine st_step rfl (fun _ h9 => op_cmp (b := false) (ev_hit hN12 rfl) (ev_hit hN12 rfl) (b_eql (decide_eq_false g32)) h9) ?_
    refine st_step rfl (fun _ h9 => op_move (ev_hit hN12 rfl) h9) ?_
    refine st_g_true (j := 4) (dj := 33) (b := false) rfl rfl rfl (ev_hit hN12 rfl) ?_
    refine st_step rfl (fun _ h9 => op_move (ev_base hN12 rfl s12_3) h9) ?_
    refine st_g_true (j := 4) (dj := 33) (b := false) rfl rfl rfl (ev_hit hN12 rfl) ?_
    refine st_step rfl (fun _ h9 => op_move (ev_base hN12 rfl s12_5) h9) ?_
    refine st_g_true (j := 4) (dj := 33) (b := false) rfl rfl rfl (ev_hit hN12 rfl) ?_
    refine st_index_rd slt54 (ev_hit hN12 rfl) hO6.rdw (ev_hit hN12 rfl) (by omega) (by omega) ?_
    intro b146 o147 h0b146 h1b146 hc148
    refine st_g_true (j := 4) (dj := 33) (b := false) rfl rfl rfl (ev_hit hN12 rfl) ?_
    refine st_step rfl (fun _ h9 => op_load1 (v := (Value.int .u16 (((nrm (l.take i)).getD jj 0).toNat : Int))) one46 (ev_hit hN12 rfl) (by have := hc148 0 (Value.int .u16 (((nrm (l.take i)).getD jj 0).toNat : Int)) (by decide) (el_u16 (i := jj) (by omega) (by omega)); simpa using this) h9) ?_
    refine st_g_true (j := 4) (dj := 33) (b := false) rfl rfl rfl (ev_hit hN12 rfl) ?_
    refine st_step rfl (fun _ h9 => op_move (ev_base hN12 rfl s12_0) h9) ?_
    refine st_g_true (j := 4) (dj := 33) (b := false) rfl rfl rfl (ev_hit hN12 rfl) ?_
    refine st_step rfl (fun _ h9 => op_move (ev_base hN12 rfl s12_4) h9) ?_
    refine st_g_true (j := 4) (dj := 33) (b := false) rfl rfl rfl (ev_hit hN12 rfl) ?_
    refine st_index_rd slt45 (ev_hit hN12 rfl) hl (ev_hit hN12 rfl) (by omega) (by omega) ?_
    intro b149 o150 h0b149 h1b149 hc151
    refine st_g_true (j := 4) (dj := 33) (b := false) rfl rfl rfl (ev_hit hN12 rfl) ?_
    refine st_step rfl (fun _ h9 => op_load1 (v := (Value.int .u16 ((l.getD i 0).toNat : Int))) one46 (ev_hit hN12 rfl) (by have := hc151 0 (Value.int .u16 ((l.getD i 0).toNat : Int)) (by decide) (el_u16 (i := i) (by omega) (by omega)); simpa using this) h9) ?_
    refine st_g_true (j := 4) (dj := 33) (b := false) rfl rfl rfl (ev_hit hN12 rfl) ?_
    refine st_step rfl (fun _ h9 => op_cmp (b := (decide ((((nrm (l.take i)).getD jj 0).toNat : Int) ≠ ((l.getD i 0).toNat : Int)))) (ev_hit hN12 rfl) (ev_hit hN12 rfl) (b_neq rfl) h9) ?_
    refine st_step rfl (fun _ h9 => op_pick_f (ev_hit hN12 rfl) (ev_hit hN12 rfl) h9) ?_
    refine st_nil ?_
    refine hK106 _ _ ?_
    refine wp_cond_split (ev_hit hN12 rfl) (fun c43 => ?_) (fun c43 => ?_)
    · -- 43T
     have c43 := of_decide_eq_true c43
     have hO6_s := hO6
     refine reg_split (hd := [_, _, _, _, _, _, _, _, _, _, _, _, _, _]) (tl := _) 14 mixed (by kernel_rfl) rfl rfl ?_
     refine any_chain (Φ := phiC [chP 0, (fun _ _ uz _ => uz = r), (fun _ _ uz _ => uz = (Value.int .i64 ((jj : Nat) : Int))), (fun _ vz uz w' => ∃ (v156 : Value), uz = v156 ∧ RdC w' w.heap.size w108.heap.size 1 v156 jj ((((nrm (l.take i)).take jj)).map u16v) ∧ (w108.heap.size ≤ w'.heap.size ∧ ∀ k, vz.ownBlock = some k → w108.heap.size ≤ k)), chP 1, (fun _ _ uz _ => uz = v), (fun _ _ uz _ => uz = (Value.int .i64 ((i : Nat) : Int))), (fun _ vz uz w' => ∃ (b165 : (Nat)) (o166 : (Nat)), uz = (ptr b165 o166) ∧ PtC w' 0 w.heap.size b165 o166 [(Value.int .u16 ((l.getD i 0).toNat : Int))] ∧ (w.heap.size ≤ w'.heap.size ∧ ∀ k, vz.ownBlock = some k → w.heap.size ≤ k)), (fun _ _ uz _ => uz = (Value.int .u16 ((l.getD i 0).toNat : Int))), (fun _ vz uz w' => ∃ (b170 : Nat), uz = (Value.slice (some ⟨b170, 0, none⟩) 1 1) ∧ w108.heap.size ≤ b170 ∧ Bx w' b170 46 [(Value.int .u16 ((l.getD i 0).toNat : Int))] ∧ vz.ownBlock ≠ some b170), chP 2, (fun _ _ uz _ => uz = r), (fun _ _ uz _ => uz = (Value.int .i64 ((jj : Nat) : Int))), (fun _ vz uz w' => ∃ (v180 : Value), uz = v180 ∧ RdC w' w.heap.size w108.heap.size 1 v180 ((nrm (l.take i)).length - jj) ((((nrm (l.take i)).drop jj)).map u16v) ∧ (w108.heap.size ≤ w'.heap.size ∧ ∀ k, vz.ownBlock = some k → w108.heap.size ≤ k))]) (C := CL [(fun vz w' => Own w' w.heap.size 46 1 vz 0 ([])), (fun vz w' => Own w' w.heap.size 46 1 vz 0 ([])), (fun vz w' => Own w' w.heap.size 46 1 vz (0 + jj) ((((nrm (l.take i)).take jj)).map u16v)), (fun vz w' => Own w' w.heap.size 46 1 vz ((0 + jj) + 1) (((((nrm (l.take i)).take jj) ++ [(l.getD i 0)])).map u16v))]) ⟨[0, 4, 10], fun c => [60, 44, 48, 54].getD c 60⟩ (Value.slice none 0 0) (by kernel_rfl) (by kernel_rfl) (by kernel_rfl) (by kernel_rfl) hN12 (StK.get0 (n := 3) (StK.ch (StK.eq (StK.eq (StK.cons (fun c v u w1 w2 E h => by obtain ⟨x0, hv, f0, q0⟩ := h; exact ⟨x0, hv, f0.keep0 E, ⟨Nat.le_trans q0.1 E.size, q0.2⟩⟩) (fun c v v' u w1 w2 _ E h => by obtain ⟨x0, hv, f0, q0⟩ := h; exact ⟨x0, hv, f0.keep E.1 (fun k hk => .inr (q0.2 k hk)), ⟨Nat.le_trans q0.1 E.1.size, ge_step E q0.1 q0.2⟩⟩) (StK.ch (StK.eq (StK.eq (StK.cons (fun c v u w1 w2 E h => by obtain ⟨x0, x1, hv, f0, q0⟩ := h; exact ⟨x0, x1, hv, f0.keep0 E, ⟨Nat.le_trans q0.1 E.size, q0.2⟩⟩) (fun c v v' u w1 w2 _ E h => by obtain ⟨x0, x1, hv, f0, q0⟩ := h; exact ⟨x0, x1, hv, f0.keep E.1 (fun k hk => .inr (q0.2 k hk)), ⟨Nat.le_trans q0.1 E.1.size, ge_step E q0.1 q0.2⟩⟩) (StK.eq (StK.cons (fun c v u w1 w2 E h => by obtain ⟨x0, hv, l0, f0, q0⟩ := h; exact ⟨x0, hv, l0, f0.keep0 E, q0⟩) (fun c v v' u w1 w2 _ E h => by obtain ⟨x0, hv, l0, f0, q0⟩ := h; exact ⟨x0, hv, l0, f0.keep E.1 (fun hh => q0 hh.symm), ne_step E f0.lt q0⟩) (StK.ch (StK.eq (StK.eq (StK.cons (fun c v u w1 w2 E h => by obtain ⟨x0, hv, f0, q0⟩ := h; exact ⟨x0, hv, f0.keep0 E, ⟨Nat.le_trans q0.1 E.size, q0.2⟩⟩) (fun c v v' u w1 w2 _ E h => by obtain ⟨x0, hv, f0, q0⟩ := h; exact ⟨x0, hv, f0.keep E.1 (fun k hk => .inr (q0.2 k hk)), ⟨Nat.le_trans q0.1 E.1.size, ge_step E q0.1 q0.2⟩⟩) (StK.nil)))))))))))))))) (StK.get1 (n := 3) (StK.ch (StK.eq (StK.eq (StK.cons (fun c v u w1 w2 E h => by obtain ⟨x0, hv, f0, q0⟩ := h; exact ⟨x0, hv, f0.keep0 E, ⟨Nat.le_trans q0.1 E.size, q0.2⟩⟩) (fun c v v' u w1 w2 _ E h => by obtain ⟨x0, hv, f0, q0⟩ := h; exact ⟨x0, hv, f0.keep E.1 (fun k hk => .inr (q0.2 k hk)), ⟨Nat.le_trans q0.1 E.1.size, ge_step E q0.1 q0.2⟩⟩) (StK.ch (StK.eq (StK.eq (StK.cons (fun c v u w1 w2 E h => by obtain ⟨x0, x1, hv, f0, q0⟩ := h; exact ⟨x0, x1, hv, f0.keep0 E, ⟨Nat.le_trans q0.1 E.size, q0.2⟩⟩) (fun c v v' u w1 w2 _ E h => by obtain ⟨x0, x1, hv, f0, q0⟩ := h; exact ⟨x0, x1, hv, f0.keep E.1 (fun k hk => .inr (q0.2 k hk)), ⟨Nat.le_trans q0.1 E.1.size, ge_step E q0.1 q0.2⟩⟩) (StK.eq (StK.cons (fun c v u w1 w2 E h => by obtain ⟨x0, hv, l0, f0, q0⟩ := h; exact ⟨x0, hv, l0, f0.keep0 E, q0⟩) (fun c v v' u w1 w2 _ E h => by obtain ⟨x0, hv, l0, f0, q0⟩ := h; exact ⟨x0, hv, l0, f0.keep E.1 (fun hh => q0 hh.symm), ne_step E f0.lt q0⟩) (StK.ch (StK.eq (StK.eq (StK.cons (fun c v u w1 w2 E h => by obtain ⟨x0, hv, f0, q0⟩ := h; exact ⟨x0, hv, f0.keep0 E, ⟨Nat.le_trans q0.1 E.size, q0.2⟩⟩) (fun c v v' u w1 w2 _ E h => by obtain ⟨x0, hv, f0, q0⟩ := h; exact ⟨x0, hv, f0.keep E.1 (fun k hk => .inr (q0.2 k hk)), ⟨Nat.le_trans q0.1 E.1.size, ge_step E q0.1 q0.2⟩⟩) (StK.nil)))))))))))))))) (StL2.get0 (StL2.own (StL2.own (StL2.own (StL2.own (StL2.nil)))))) (StL2.get1 (StL2.own (StL2.own (StL2.own (StL2.own (StL2.nil)))))) (Own.nil w108 w.heap.size 46 1) (ObLn.get (ObLn.pass rfl (ObLn.cons ?_ (ObLn.cons ?_ (ObLn.cons ?_ (ObLn.pass rfl (ObLn.cons ?_ (ObLn.cons ?_ (ObLn.cons ?_ (ObLn.cons ?_ (ObLn.cons ?_ (ObLn.pass rfl (ObLn.cons ?_ (ObLn.cons ?_ (ObLn.cons ?_ (ObLn.nil)))))))))))))))) (ObLc.get (ObLc.cons ?_ (ObLc.cons ?_ (ObLc.cons ?_ (ObLc.nil))))) ?_
     ·
      intro aA wA ccA cvA hNA hclA hRA hltA hvoA hbsA hdpA
      have qA_3 := (hbsA 3 rfl).trans (sl_base hN12 rfl s12_3)
      refine op_move (ev_base hNA rfl qA_3) ?_
      exact obNc_end rfl rfl (grown_refl _ _)
     ·
      intro aA wA ccA cvA hNA hclA hRA hltA hvoA hbsA hdpA
      have qA_5 := (hbsA 5 rfl).trans (sl_base hN12 rfl s12_5)
      refine op_move (ev_base hNA rfl qA_5) ?_
      exact obNc_end rfl rfl (grown_refl _ _)
     ·
      intro aA wA ccA cvA hNA hclA hRA hltA hvoA hbsA hdpA
      have hRA : w108.grownBy wA (Value.slice none 0 0).ownBlock := hRA
      have hnil_o := (Own.nil w108 w.heap.size 46 1)
      have z_wA := hRA.size
      have hb := below_stepO hb (Own.nil w108 w.heap.size 46 1) hRA hb.size (by omega)
      have hl := hl.keep0 hRA
      have hO6 := hO6.keep0 hRA
      have qA_45 : Sl aA 45 r := hdpA 1 _ 45 (by kernel_rfl) rfl rfl
      have qA_46 : Sl aA 46 (Value.int .i64 ((jj : Nat) : Int)) := hdpA 2 _ 46 (by kernel_rfl) rfl rfl
      clear hbsA hdpA
      refine op_slice_rd (lo := 0) (hi := jj) slt54 (ev_base hNA rfl qA_45) (Own.rdB hO6 hO6_s) (.inl ⟨rfl, rfl⟩) (.inr ⟨_, _, rfl, (ev_base hNA rfl qA_46)⟩) (by omega) (by omega) ?_
      intro v152 hR153
      have hR153 : RdC wA w.heap.size w108.heap.size 1 v152 jj ((((nrm (l.take i)).take jj)).map u16v) := by simpa [List.map_drop, List.map_take] using hR153
      exact obNc_end rfl ⟨v152, rfl, hR153, ⟨by omega, ge_of hvoA (fun k hk => by simp [Value.ownBlock] at hk) (by omega)⟩⟩ (grown_refl _ _)
     ·
      intro aA wA ccA cvA hNA hclA hRA hltA hvoA hbsA hdpA
      have qA_0 := (hbsA 0 rfl).trans (sl_base hN12 rfl s12_0)
      refine op_move (ev_base hNA rfl qA_0) ?_
      exact obNc_end rfl rfl (grown_refl _ _)
     ·
      intro aA wA ccA cvA hNA hclA hRA hltA hvoA hbsA hdpA
      have qA_4 := (hbsA 4 rfl).trans (sl_base hN12 rfl s12_4)
      refine op_move (ev_base hNA rfl qA_4) ?_
      exact obNc_end rfl rfl (grown_refl _ _)
     ·
      intro aA wA ccA cvA hNA hclA hRA hltA hvoA hbsA hdpA
      have hRA : w108.grownBy wA (Value.slice none 0 0).ownBlock := hRA
      have hnil_o := (Own.nil w108 w.heap.size 46 1)
      have z_wA := hRA.size
      have hb := below_stepO hb (Own.nil w108 w.heap.size 46 1) hRA hb.size (by omega)
      have hl := hl.keep0 hRA
      have hO6 := hO6.keep0 hRA
      have qA_49 : Sl aA 49 v := hdpA 5 _ 49 (by kernel_rfl) rfl rfl
      have qA_50 : Sl aA 50 (Value.int .i64 ((i : Nat) : Int)) := hdpA 6 _ 50 (by kernel_rfl) rfl rfl
      clear hbsA hdpA
      refine op_index_rd slt45 (ev_base hNA rfl qA_49) hl (ev_base hNA rfl qA_50) (by omega) (by omega) ?_
      intro b154 o155 h0b154 h1b154 hc156
      have hp157 : PtC wA 0 w.heap.size b154 o155 [(Value.int .u16 ((l.getD i 0).toNat : Int))] := ⟨by omega, by omega, fun j u hu => hc156 j u (by have := (List.getElem?_eq_some_iff.1 hu).1; simpa using this) ((fun j u hu => one_at (el_u16 (i := i) (by omega) (by omega)) hu) j u hu)⟩
      exact obNc_end rfl ⟨b154, o155, rfl, hp157, ⟨by omega, ge_of hvoA (fun k hk => by simp [Value.ownBlock] at hk) (by omega)⟩⟩ (grown_refl _ _)
     ·
      intro aA wA ccA cvA hNA hclA hRA hltA hvoA hbsA hdpA
      have hRA : w108.grownBy wA (Value.slice none 0 0).ownBlock := hRA
      have hnil_o := (Own.nil w108 w.heap.size 46 1)
      have z_wA := hRA.size
      have hb := below_stepO hb (Own.nil w108 w.heap.size 46 1) hRA hb.size (by omega)
      have hl := hl.keep0 hRA
      have hO6 := hO6.keep0 hRA
      obtain ⟨b165, o166, qA_51, hp168, xqA_51_0⟩ := hdpA 7 _ 51 (by kernel_rfl) rfl rfl
      have hp168 : PtC wA 0 w.heap.size b165 o166 [(Value.int .u16 ((l.getD i 0).toNat : Int))] := hp168
      clear hbsA hdpA
      refine op_load1 (v := (Value.int .u16 ((l.getD i 0).toNat : Int))) one46 (ev_base hNA rfl qA_51) (hp168.2.2 0 _ rfl) ?_
      exact obNc_end rfl rfl (grown_refl _ _)
     ·
      intro aA wA ccA cvA hNA hclA hRA hltA hvoA hbsA hdpA
      have hRA : w108.grownBy wA (Value.slice none 0 0).ownBlock := hRA
      have hnil_o := (Own.nil w108 w.heap.size 46 1)
      have z_wA := hRA.size
      have hb := below_stepO hb (Own.nil w108 w.heap.size 46 1) hRA hb.size (by omega)
      have hl := hl.keep0 hRA
      have hO6 := hO6.keep0 hRA
      have qA_52 : Sl aA 52 (Value.int .u16 ((l.getD i 0).toNat : Int)) := hdpA 8 _ 52 (by kernel_rfl) rfl rfl
      clear hbsA hdpA
      refine op_bslice (e := 46) (pv := [(0, (Value.int .u16 ((l.getD i 0).toNat : Int)))]) (cs := [(Value.int .u16 ((l.getD i 0).toNat : Int))]) ⟨rfl, (ev_base hNA rfl qA_52), trivial⟩ (by kernel_rfl) ?_
      intro w158 b159 lo_b159 hi_b159 hB161 E160
      have ne_b159_r : r.ownBlock ≠ some b159 := fun hh => by have := (hO6.lt _ hh).2; omega
      have z_w158 := E160.size
      have hl := hl.keep0 E160
      have hO6 := hO6.keep0 E160
      have hb := below_step0 hb E160 hb.size
      exact obNc_end rfl ⟨b159, rfl, (by omega), hB161, (fun hh => by have := hltA _ hh; omega)⟩ (E160)
     ·
      intro aA wA ccA cvA hNA hclA hRA hltA hvoA hbsA hdpA
      have qA_3 := (hbsA 3 rfl).trans (sl_base hN12 rfl s12_3)
      refine op_move (ev_base hNA rfl qA_3) ?_
      exact obNc_end rfl rfl (grown_refl _ _)
     ·
      intro aA wA ccA cvA hNA hclA hRA hltA hvoA hbsA hdpA
      have qA_5 := (hbsA 5 rfl).trans (sl_base hN12 rfl s12_5)
      refine op_move (ev_base hNA rfl qA_5) ?_
      exact obNc_end rfl rfl (grown_refl _ _)
     ·
      intro aA wA ccA cvA hNA hclA hRA hltA hvoA hbsA hdpA
      have hRA : w108.grownBy wA (Value.slice none 0 0).ownBlock := hRA
      have hnil_o := (Own.nil w108 w.heap.size 46 1)
      have z_wA := hRA.size
      have hb := below_stepO hb (Own.nil w108 w.heap.size 46 1) hRA hb.size (by omega)
      have hl := hl.keep0 hRA
      have hO6 := hO6.keep0 hRA
      have qA_55 : Sl aA 55 r := hdpA 11 _ 55 (by kernel_rfl) rfl rfl
      have qA_56 : Sl aA 56 (Value.int .i64 ((jj : Nat) : Int)) := hdpA 12 _ 56 (by kernel_rfl) rfl rfl
      clear hbsA hdpA
      refine op_slice_rd (lo := jj) (hi := (nrm (l.take i)).length) slt54 (ev_base hNA rfl qA_55) (Own.rdB hO6 hO6_s) (.inr ⟨_, _, rfl, (ev_base hNA rfl qA_56)⟩) (.inl ⟨rfl, rfl⟩) (by omega) (by omega) ?_
      intro v162 hR163
      have hR163 : RdC wA w.heap.size w108.heap.size 1 v162 ((nrm (l.take i)).length - jj) ((((nrm (l.take i)).drop jj)).map u16v) := by simpa [List.map_drop, List.map_take, List.take_of_length_le] using hR163
      exact obNc_end rfl ⟨v162, rfl, hR163, ⟨by omega, ge_of hvoA (fun k hk => by simp [Value.ownBlock] at hk) (by omega)⟩⟩ (grown_refl _ _)
     ·
      intro o_ ho_; obtain rfl := Option.some.inj ho_; intro aA wA cvA hNA hRA hcv0A hbsA hdpA hCA
      have hRA : w108.grownBy wA (Value.slice none 0 0).ownBlock := hRA
      have hnil_o := (Own.nil w108 w.heap.size 46 1)
      have z_wA := hRA.size
      have hb := below_stepO hb (Own.nil w108 w.heap.size 46 1) hRA hb.size (by omega)
      have hl := hl.keep0 hRA
      have hO6 := hO6.keep0 hRA
      have hcvA : (Value.slice none 0 0) = cvA := (hcv0A rfl).symm
      subst hcvA
      have hCA : Own wA w.heap.size 46 1 (Value.slice none 0 0) 0 ([]) := hCA
      clear hbsA hdpA
      refine op_bslice (e := 46) (pv := []) (cs := []) trivial (by kernel_rfl) ?_
      intro w164 b165 lo_b165 hi_b165 hB167 E166
      have ne_b165_r : r.ownBlock ≠ some b165 := fun hh => by have := (hO6.lt _ hh).2; omega
      have z_w164 := E166.size
      have hl := hl.keep0 E166
      have hO6 := hO6.keep0 E166
      have hCA := hCA.keep0 E166
      have hb := below_step0 hb E166 hb.size
      exact obCc_end rfl rfl (chP_now (w := w164)) (Own.ofBx (base := w.heap.size) (sz := 1) (n := 0) hB167 rfl (by decide) (by omega)) ⟨E166, .inr (fun k hk => by simp [Value.ownBlock] at hk; omega)⟩
     ·
      intro o_ ho_; obtain rfl := Option.some.inj ho_; intro aA wA cvA hNA hRA hcv0A hbsA hdpA hCA
      have hRA : w108.grownBy wA (Value.slice none 0 0).ownBlock := hRA
      have hnil_o := (Own.nil w108 w.heap.size 46 1)
      have z_wA := hRA.size
      have hb := below_stepO hb (Own.nil w108 w.heap.size 46 1) hRA hb.size (by omega)
      have hl := hl.keep0 hRA
      have hO6 := hO6.keep0 hRA
      have hCA : Own wA w.heap.size 46 1 cvA 0 ([]) := hCA
      have qA_44 : aA.tmps.getD 44 undef = cvA := (show chP 0 1 cvA (aA.tmps.getD 44 undef) wA from hdpA 0 _ 44 (by kernel_rfl) rfl rfl).2 rfl
      obtain ⟨v156, qA_47, hR157, xqA_47_0⟩ := hdpA 3 _ 47 (by kernel_rfl) rfl rfl
      have hR157 : RdC wA w.heap.size w108.heap.size 1 v156 jj ((((nrm (l.take i)).take jj)).map u16v) := hR157
      clear hbsA hdpA
      have hP173 := hCA
      refine op_append slt54 (ev_base hNA rfl qA_44) hP173 (ev_base hNA rfl qA_47) (Src.ofRd Try.underlying54 (by decide) hR157 (one_u16 _)) (by unfold maxLen; omega) (by omega) hb.size ?_
      intro v168 w169 hO171 E170 hm172
      have z_w169 := E170.size
      have hl := hl.keepO hP173 E170 (by omega)
      have hR157 := hR157.keep E170 (fun k hk => .inr (xqA_47_0.2 k hk))
      have hb := below_stepO hb hP173 E170 hb.size (by omega)
      have hO171 : Own w169 w.heap.size 46 1 v168 (0 + jj) ((((nrm (l.take i)).take jj)).map u16v) := by simpa [u8v, u16v, cellsV] using hO171
      exact obCc_end rfl rfl (chP_now (w := w169)) hO171 ⟨E170, hm172⟩
     ·
      intro o_ ho_; obtain rfl := Option.some.inj ho_; intro aA wA cvA hNA hRA hcv0A hbsA hdpA hCA
      have hRA : w108.grownBy wA (Value.slice none 0 0).ownBlock := hRA
      have hnil_o := (Own.nil w108 w.heap.size 46 1)
      have z_wA := hRA.size
      have hb := below_stepO hb (Own.nil w108 w.heap.size 46 1) hRA hb.size (by omega)
      have hl := hl.keep0 hRA
      have hO6 := hO6.keep0 hRA
      have hCA : Own wA w.heap.size 46 1 cvA (0 + jj) ((((nrm (l.take i)).take jj)).map u16v) := hCA
      have qA_48 : aA.tmps.getD 48 undef = cvA := (show chP 1 2 cvA (aA.tmps.getD 48 undef) wA from hdpA 4 _ 48 (by kernel_rfl) rfl rfl).2 rfl
      obtain ⟨b170, qA_53, loA_0, hB172, xqA_53_0⟩ := hdpA 9 _ 53 (by kernel_rfl) rfl rfl
      have hB172 : Bx wA b170 46 [(Value.int .u16 ((l.getD i 0).toNat : Int))] := hB172
      clear hbsA hdpA
      have hP179 := hCA
      refine op_append slt54 (ev_base hNA rfl qA_48) hP179 (ev_base hNA rfl qA_53) (Src.ofRd Try.underlying54 (by decide) (RdC.ofBx (sz := 1) (n := 1) hB172 rfl (by decide)) (by simp [Value.oneCell', u8v])) (by unfold maxLen; omega) (by omega) hb.size ?_
      intro v174 w175 hO177 E176 hm178
      have z_w175 := E176.size
      have hl := hl.keepO hP179 E176 (by omega)
      have hB172 := hB172.keep E176 (fun hh => xqA_53_0 hh.symm)
      have hb := below_stepO hb hP179 E176 hb.size (by omega)
      have hO177 : Own w175 w.heap.size 46 1 v174 ((0 + jj) + 1) (((((nrm (l.take i)).take jj) ++ [(l.getD i 0)])).map u16v) := by simpa [u8v, u16v, cellsV] using hO177
      exact obCc_end rfl rfl (chP_now (w := w175)) hO177 ⟨E176, hm178⟩
     ·
      intro a180 w180 v173 hN180 hd180 hbs180 hph180 hC180 E180 hm180
      have hd180 := hd180.trans hd12
      have s180_0 := (hbs180 0 rfl).trans (sl_base hN12 rfl s12_0)
      have s180_2 := (hbs180 2 rfl).trans (sl_base hN12 rfl s12_2)
      have s180_3 := (hbs180 3 rfl).trans (sl_base hN12 rfl s12_3)
      have s180_4 := (hbs180 4 rfl).trans (sl_base hN12 rfl s12_4)
      have s180_54 : a180.tmps.getD 54 undef = v173 := (show chP 2 3 v173 (a180.tmps.getD 54 undef) w180 from hph180 10 _ 54 rfl rfl).2 rfl
      obtain ⟨v180, s180_57, hR181, xq180_57_0⟩ := hph180 13 _ 57 rfl rfl
      have hR181 : RdC w180 w.heap.size w108.heap.size 1 v180 ((nrm (l.take i)).length - jj) ((((nrm (l.take i)).drop jj)).map u16v) := hR181
      clear hbs180 hph180
      have E180 : w108.grownBy w180 (Value.slice none 0 0).ownBlock := E180
      have hC180 : Own w180 w.heap.size 46 1 v173 ((0 + jj) + 1) (((((nrm (l.take i)).take jj) ++ [(l.getD i 0)])).map u16v) := hC180
      have dj181 : DJ r v173 := fun k hk hg => by have q1 := (hO6.lt k hk).2; rcases hm180 with h7 | h7; (rw [h7] at hg; simp [Value.ownBlock] at hg); (have := h7 k hg; omega)
      have E180 : w108.grownBy w180 none := E180
      have z_w180 := E180.size
      have hl := hl.keep0 E180
      have hO6 := hO6.keep0 E180
      have hb := below_step0 hb E180 hb.size
      refine split_end ?_
      refine from_seq (tl := [_, _]) (by decide) (by kernel_rfl) rfl ?_
      have hP187 := hC180
      refine op_append slt54 (ev_base hN180 rfl s180_54) hP187 (ev_base hN180 rfl s180_57) (Src.ofRd Try.underlying54 (by decide) hR181 (one_u16 _)) (by unfold maxLen; omega) (by omega) hb.size ?_
      intro v182 w183 hO185 E184 hm186
      have dj188 : DJ r v182 := DJ.step hm186 (fun k hk => (hO6.lt k hk).2) dj181
      have z_w183 := E184.size
      have hl := hl.keepO hP187 E184 (by omega)
      have hO6 := hO6.keepD E184 dj181
      have hR181 := hR181.keep E184 (fun k hk => .inr (xq180_57_0.2 k hk))
      have hb := below_stepO hb hP187 E184 hb.size (by omega)
      have hO185 : Own w183 w.heap.size 46 1 v182 (((0 + jj) + 1) + ((nrm (l.take i)).length - jj)) ((((((nrm (l.take i)).take jj) ++ [(l.getD i 0)]) ++ ((nrm (l.take i)).drop jj))).map u16v) := by simpa [u8v, u16v, cellsV] using hO185
      refine op_assign (ev_hit hN180 rfl) ?_
      refine reg_nil ?_
      refine hK9 _ _ ?_
      refine one_reg ?_
      refine op_move (ev_base hN180 rfl s180_4) ?_
      refine op_add (ev_hit hN180 rfl) rfl (add64 (by omega)) ?_
      refine op_assign (ev_hit hN180 rfl) ?_
      refine reg_nil ?_
      -- round 9T 15F 32F 43T
      have hins := insT_at (x := l.getD i 0) (acc := (nrm (l.take i))) (j := jj) hlt (by omega) (by omega)
      exact loop_next _ hN180 hd180 ⟨i + 1, _, rfl, (sl_base hN180 rfl s180_0), (sl_base hN180 rfl s180_2), (sl_hit hN180 rfl).trans (congrArg (Value.int .i64) (by omega)), (sl_hit hN180 rfl), (by omega), (nrm_len (by omega)), hb, (by omega), hl, (hO185.cast (by rw [take_nrm (by omega), hins.2 (.inr (fun e => c43 (by rw [e])))]; simp; omega) (by rw [take_nrm (by omega), hins.2 (.inr (fun e => c43 (by rw [e])))]; try simp [u16v]))⟩ (by omega)
    · -- 43F
     have c43 := of_decide_eq_false c43
     refine wp_skip ?_
     refine hK9 _ _ ?_
     refine one_reg ?_
     refine op_move (ev_base hN12 rfl s12_4) ?_
     refine op_add (ev_hit hN12 rfl) rfl (add64 (by omega)) ?_
     refine op_assign (ev_hit hN12 rfl) ?_
     refine reg_nil ?_
     -- round 9T 15F 32F 43F
     have hins := insT_at (x := l.getD i 0) (acc := (nrm (l.take i))) (j := jj) hlt (by omega) (by omega)
     exact loop_next _ hN12 hd12 ⟨i + 1, _, rfl, (sl_base hN12 rfl s12_0), (sl_base hN12 rfl s12_2), (sl_hit hN12 rfl).trans (congrArg (Value.int .i64) (by omega)), (sl_base hN12 rfl s12_3), (by omega), (nrm_len (by omega)), hb, (by omega), hl, (hO6.cast (by rw [take_nrm (by omega), hins.1 ⟨by omega, u16_eq (by omega)⟩]) (by rw [take_nrm (by omega), hins.1 ⟨by omega, u16_eq (by omega)⟩]))⟩ (by omega)
 · -- 9F
  refine reg_nil ?_
  refine hK8 _ _ ?_
  refine wp_cond_false (ev_hit hN5 rfl) ?_
  refine wp_exit (then_exit (then_exit (blk_hit ?_)))
  refine hK3 _ _ ?_
  refine seq_any fun K189 hK189 => ?_
  refine one_reg ?_
  refine op_move (ev_base hN5 rfl s5_3) ?_
  refine op_assign (ev_hit hN5 rfl) ?_
  refine reg_nil ?_
  refine hK189 _ _ ?_
  refine wp_ret ?_
  refine ret1 rfl hd5 (ev_hit hN5 rfl) ⟨_, rfl, ?_⟩
  -- path 9F
  rw [take_all l (by omega)] at hO6
  exact ⟨hb, hO6⟩

end Go.Proofs.Ytmhdbphpmgjpcaa

/- Plain laws of rows: what is written is read, cut off it is short, with more behind it is none, and what is read is what is written. -/
namespace Go.Proofs.Ytmhdbphpmgjpcaa
open Go.Gx
end Go.Proofs.Ytmhdbphpmgjpcaa

/- Plain laws of labels' bytes and of index keys. -/
namespace Go.Proofs.Ytmhdbphpmgjpcaa
open Go.Gx
/-! how keys stand -/
end Go.Proofs.Ytmhdbphpmgjpcaa
