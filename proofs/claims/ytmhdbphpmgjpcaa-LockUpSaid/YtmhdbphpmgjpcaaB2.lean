/- Labels taken apart and put together, plainly. -/
import Derived.Shelf.SlIterI.Nil
import Derived.Shelf.SortM.Plain
import Derived.Shelf.SortM.SortNone
import Derived.Lib.SlKeysI
import Derived.Test.YtmhdbphpmgjpcaaB1
namespace Go.Proofs.Ytmhdbphpmgjpcaa
open Go.Gx Go.RowKit
def inL (x : UInt16) (m : Lb) : Bool := decide (x ∈ m)
def ninL (x : UInt16) (m : Lb) : Bool := !inL x m
def minusL (l m : Lb) : Lb := l.filter (fun x => ninL x m)
def flowsL (l m : Lb) : Bool := l.all (fun x => inL x m)
theorem in_t {x : UInt16} {m : Lb} {i : Nat} (h : i < m.length) (e : (m.getD i 0) = x) : inL x m = true := by
  subst e; unfold inL; simp [h]
theorem in_f {x : UInt16} {m : Lb} {i : Nat} (hi : m.length ≤ i) (h : ∀ j, j < i → m.getD j 0 ≠ x) : inL x m = false := by
  unfold inL
  rw [decide_eq_false_iff_not]
  intro hm
  obtain ⟨j, hj, e⟩ := List.getElem_of_mem hm
  exact h j (by omega) (by simp [hj, e])
theorem no_step {x : UInt16} {m : Lb} {i : Nat} (h : ∀ j, j < i → m.getD j 0 ≠ x) (e : ¬ m.getD i 0 = x) : ∀ j, j < i + 1 → m.getD j 0 ≠ x := fun j hj => by
  by_cases q : j = i
  · subst q; exact e
  · exact h j (by omega)
theorem lb_take {l : Lb} {i : Nat} (h : i < l.length) : l.take (i + 1) = l.take i ++ [l.getD i 0] := by
  rw [List.take_add_one, List.getElem?_eq_getElem h]; simp [h]
theorem filter_t {l : Lb} {i : Nat} {p : UInt16 → Bool} (h : i < l.length) (hp : p (l.getD i 0) = true) : (l.take (i + 1)).filter p = (l.take i).filter p ++ [l.getD i 0] := by
  rw [lb_take h, List.filter_append, List.filter_cons, if_pos hp]; rfl
theorem filter_f {l : Lb} {i : Nat} {p : UInt16 → Bool} (h : i < l.length) (hp : p (l.getD i 0) = false) : (l.take (i + 1)).filter p = (l.take i).filter p := by
  rw [lb_take h, List.filter_append, List.filter_cons, if_neg (by rw [hp]; decide), List.filter_nil, List.append_nil]
theorem filter_le {l : Lb} {i : Nat} {p : UInt16 → Bool} : ((l.take i).filter p).length ≤ i := Nat.le_trans (List.length_filter_le _ _) (by simp; omega)
theorem all_f {l : Lb} {i : Nat} {p : UInt16 → Bool} (h : i < l.length) (hp : p (l.getD i 0) = false) : l.all p = false := by
  rw [List.all_eq_false]
  exact ⟨l.getD i 0, by simp [h], by simpa using hp⟩
theorem all_step {l : Lb} {i : Nat} {p : UInt16 → Bool} (h : i < l.length) (ha : (l.take i).all p = true) (hp : p (l.getD i 0) = true) : (l.take (i + 1)).all p = true := by
  rw [lb_take h, List.all_append, ha]; simp only [List.all_cons, List.all_nil, hp]; rfl
theorem all_end {l : Lb} {i : Nat} {p : UInt16 → Bool} (h : l.length ≤ i) (ha : (l.take i).all p = true) : l.all p = true := by
  rwa [List.take_of_length_le h] at ha
theorem flows_minus (l m : Lb) : flowsL l m = decide ((minusL l m).length = 0) := by
  unfold flowsL minusL ninL
  rw [Bool.eq_iff_iff, decide_eq_true_iff, List.length_eq_zero_iff, List.filter_eq_nil_iff]
  simp
theorem take_all (l : Lb) {i : Nat} (h : l.length ≤ i) : l.take i = l := List.take_of_length_le h
end Go.Proofs.Ytmhdbphpmgjpcaa

/- How lists of tags stand, plainly; labels made together. -/
namespace Go.Proofs.Ytmhdbphpmgjpcaa
open Go.Gx Go.RowKit
theorem cmpG_gt {a b : Lb} {i : Nat} (ha : i < a.length) (hb : b.length ≤ i) : cmpG (a.drop i) (b.drop i) = 1 := by
  rw [List.drop_eq_getElem_cons ha, List.drop_of_length_le hb]; rfl
theorem cmpG_lt {a b : Lb} {i : Nat} (ha : a.length ≤ i) (hb : i < b.length) : cmpG (a.drop i) (b.drop i) = -1 := by
  rw [List.drop_eq_getElem_cons hb, List.drop_of_length_le ha]; rfl
theorem cmpL_or {a b : Lb} : (if cmpI (a.length : Int) (b.length : Int) = 0 then cmpG a b else cmpI (a.length : Int) (b.length : Int)) = cmpL a b := by
  unfold cmpI cmpL; (repeat' split) <;> omega
end Go.Proofs.Ytmhdbphpmgjpcaa

/- Sessions as objects: a box, a list of sessions with labels and posts of their own, a map of stamps. -/
namespace Go.Gx
/-- A session, plainly. -/
structure KS where
  label : List UInt16
  owns : List UInt16
  texts : List (List UInt8)
instance : Inhabited KS := ⟨⟨[], [], []⟩⟩
/-- Where a session's parts lie. -/
structure KC where
  lab : Value
  own : Value
  p : Nat
  F : Nat → Prop
instance : Inhabited KC := ⟨⟨.slice none 0 0, .slice none 0 0, 0, fun _ => False⟩⟩
def cellsK (c : KC) : List Value := [c.lab, c.own, ptr c.p 0]
abbrev PostS := PostR sv 126 9
def SessR (w : World) (base : Nat) (s : KS) (c : KC) : Prop :=
  Own w base 46 1 c.lab s.label.length (s.label.map u16v) ∧ Own w base 46 1 c.own s.owns.length (s.owns.map u16v) ∧ PostS w base c.p 16 s.texts c.F
def PartK (c : KC) (x : Nat) : Prop := Bl c.lab x ∨ Bl c.own x ∨ c.F x
/-- Sessions: box k, its list, its map of stamps M; F: all its blocks. -/
def KernR (w : World) (base k : Nat) (S : List KS) (M : List (List UInt8 × Int)) (F : Nat → Prop) : Prop :=
  ∃ (lv : Value) (m : Nat) (C : List KC), base ≤ k ∧ base ≤ m ∧ C.length = S.length ∧ Bx w k 134 [lv, .map (some m)] ∧ Own w base 137 3 lv S.length (C.flatMap cellsK) ∧ MapC sv (Value.int .u64) w m M ∧
    (∀ i, i < S.length → SessR w base (S.getD i default) (C.getD i default)) ∧ (∀ i j, i < S.length → j < S.length → i ≠ j → Dj (C.getD i default).F (C.getD j default).F) ∧
    (∀ x, F x ↔ x = k ∨ x = m ∨ Bl lv x ∨ ∃ i, i < S.length ∧ PartK (C.getD i default) x)
section
variable {w w' : World} {base k m b t e sz n p cap : Nat} {S : List KS} {M : List (List UInt8 × Int)} {F G : Nat → Prop} {cs : List Value} {v lv : Value} {L : List (List UInt8)}
/-! a post's blocks are none of another kind -/
theorem PostR.notBx {α : Type} {f : α → Value} {tp ep : Nat} {L : List α} (h : PostR f tp ep w base p cap L F) (B : Bx w b t cs) (h1 : t ≠ tp) (h2 : t ≠ ep) : ¬ F b := by
  obtain ⟨c, hv, H, B', _, _, _, _, _, _, hx, O, C, hF⟩ := h
  intro hf
  rcases (hF b).1 hf with rfl | rfl | hf
  · have := B.symm.trans hx; simp at this; exact h1 this.2
  · exact B.notCh C rfl
  · exact O.neB B h2 hf
theorem PostR.notOwn {α : Type} {f : α → Value} {tp ep : Nat} {L : List α} {base2 : Nat} (h : PostR f tp ep w base p cap L F) (O2 : Own w base2 e sz v n cs) (h1 : e ≠ tp) (h2 : e ≠ ep) : Dj (Bl v) F := by
  obtain ⟨c, hv, H, B', _, _, _, _, _, _, hx, O, C, hF⟩ := h
  intro x hx2 hf
  rcases (hF x).1 hf with rfl | rfl | hf
  · exact O2.neB hx (fun e => h1 e.symm) hx2
  · exact O2.notCh C hx2
  · rcases O2.2 with ⟨rfl, _⟩ | ⟨g, off, cap, cur, fr, rfl, hb, hg, _⟩
    · cases hx2
    · simp only [Bl, Value.ownBlock, Option.some.injEq] at hx2
      subst hx2
      rcases O.2 with ⟨rfl, _⟩ | ⟨g', off', cap', cur', fr', rfl, hb', hg', _⟩
      · cases hf
      · simp only [Value.ownBlock, Option.some.injEq] at hf
        subst hf
        have := hg.symm.trans hg'; simp at this; exact h2 this.2.1
theorem PostR.notMap {α K V : Type} {f : α → Value} {kv : K → Value} {vv : V → Value} {es : List (K × V)} {tp ep : Nat} {L : List α} (h : PostR f tp ep w base p cap L F) (M : MapC kv vv w m es) : ¬ F m := by
  obtain ⟨c, hv, H, B', _, _, _, _, _, _, hx, O, C, hF⟩ := h
  intro hf
  rcases (hF m).1 hf with rfl | rfl | hf
  · exact hx.notMap M rfl
  · obtain ⟨arr, cl, hm, _⟩ := M; obtain ⟨s, r, hc⟩ := C; rw [hm] at hc; simp at hc
  · exact O.notMap M hf
theorem KernR.lt (h : KernR w base k S M F) : ∀ x, F x → base ≤ x ∧ x < w.heap.size := by
  obtain ⟨lv, m, C, hk, hm, hC, hx, O, hM, hS, hD, hF⟩ := h
  intro x hf
  rcases (hF x).1 hf with rfl | rfl | hf | ⟨i, hi, hf⟩
  · exact ⟨hk, hx.lt⟩
  · exact ⟨hm, hM.lt⟩
  · exact O.lt x hf
  · obtain ⟨h1, h2, h3⟩ := hS i hi
    rcases hf with hf | hf | hf
    · exact h1.lt x hf
    · exact h2.lt x hf
    · exact h3.lt x hf
theorem SessR.keepG {s : KS} {c : KC} (h : SessR w base s c) (E : Gr w w' G) (hd : ∀ x, PartK c x → ¬ G x) : SessR w' base s c :=
  ⟨h.1.keepG E fun x hx => hd x (.inl hx), h.2.1.keepG E fun x hx => hd x (.inr (.inl hx)), h.2.2.keepG E fun x hx => hd x (.inr (.inr hx))⟩
theorem KernR.keepG (h : KernR w base k S M F) (E : Gr w w' G) (hd : Dj F G) : KernR w' base k S M F := by
  obtain ⟨lv, m, C, hk, hm, hC, hx, O, hM, hS, hD, hF⟩ := h
  exact ⟨lv, m, C, hk, hm, hC, hx.keepG E (hd k ((hF k).2 (.inl rfl))), O.keepG E (fun x hx => hd x ((hF x).2 (.inr (.inr (.inl hx))))), hM.keepG E (hd m ((hF m).2 (.inr (.inl rfl)))),
    fun i hi => (hS i hi).keepG E fun x hx => hd x ((hF x).2 (.inr (.inr (.inr ⟨i, hi, hx⟩)))), hD, hF⟩
theorem KernR.mono {base' : Nat} (h : KernR w base k S M F) (hb : base' ≤ base) : KernR w base' k S M F := by
  obtain ⟨lv, m, C, hk, hm, hC, hx, O, hM, hS, hD, hF⟩ := h
  exact ⟨lv, m, C, Nat.le_trans hb hk, Nat.le_trans hb hm, hC, hx, O.mono hb, hM, fun i hi => ⟨(hS i hi).1.mono hb, (hS i hi).2.1.mono hb, (hS i hi).2.2.mono hb⟩, hD, hF⟩
/-! what is there behind a turn of one session's post -/
theorem getD_set {α : Type} {l : List α} {i j : Nat} {x d : α} (hi : i < l.length) : (l.set i x).getD j d = if j = i then x else l.getD j d := by
  by_cases h : j = i
  · subst h; rw [if_pos rfl]; simp [List.getD_eq_getElem?_getD, hi]
  · rw [if_neg h]; simp [List.getD_eq_getElem?_getD, List.getElem?_set_ne (fun e => h e.symm)]
end
/-! elements of so many cells -/
theorem el_flat {α : Type} {f : α → List Value} {sz : Nat} {l : List α} {d : α} {e : Int} {i : Nat} (hp : 0 < sz) (hf : ∀ u ∈ l, (f u).length = sz) (he : e = (i : Int)) (h : i < l.length) : ∀ j u, (f (l.getD i d))[j]? = some u → (l.flatMap f)[e.toNat * sz + j]? = some u := by
  intro j u hu
  subst he
  have hm : l.getD i d ∈ l := getD_mem h
  have hj : j < sz := by have := (List.getElem?_eq_some_iff.1 hu).1; rwa [hf _ hm] at this
  rw [flat_get hp l hf, Int.toNat_natCast, Nat.mul_comm, Nat.mul_add_div hp, Nat.mul_add_mod, Nat.div_eq_of_lt hj, Nat.mod_eq_of_lt hj, Nat.add_zero]
  have : l[i]? = some (l.getD i d) := by simp [List.getD_eq_getElem?_getD, h]
  rw [this]; exact hu
/-! configs: labels and what is owned, as they are told -/
abbrev LBV := Value × List UInt16
def D2 : LBV := (.slice none 0 0, [])
/-! sessions' parts, all together -/
def SessAll (w : World) (base : Nat) (S : List KS) (C : List KC) (F : Nat → Prop) : Prop :=
  C.length = S.length ∧ (∀ i, i < S.length → SessR w base (S.getD i default) (C.getD i default)) ∧ (∀ i j, i < S.length → j < S.length → i ≠ j → Dj (C.getD i default).F (C.getD j default).F) ∧ (∀ x, F x ↔ ∃ i, i < S.length ∧ PartK (C.getD i default) x)
section
variable {w w' : World} {base k m : Nat} {S : List KS} {C : List KC} {M : List (List UInt8 × Int)} {F G Fp : Nat → Prop} {lv la ow : Value} {l o : List UInt16} {T : List (List UInt8)} {p : Nat}
theorem SessR.part {s : KS} {c : KC} (h : SessR w base s c) : ∀ x, PartK c x → base ≤ x ∧ x < w.heap.size := fun x hx => by
  rcases hx with hx | hx | hx
  · exact h.1.lt x hx
  · exact h.2.1.lt x hx
  · exact h.2.2.lt x hx
theorem SessAll.lt (h : SessAll w base S C F) : ∀ x, F x → base ≤ x ∧ x < w.heap.size := fun x hx => by
  obtain ⟨i, hi, hx⟩ := (h.2.2.2 x).1 hx
  exact (h.2.1 i hi).part x hx
theorem SessAll.keepG (h : SessAll w base S C F) (E : Gr w w' G) (hd : Dj F G) : SessAll w' base S C F :=
  ⟨h.1, fun i hi => (h.2.1 i hi).keepG E fun x hx => hd x ((h.2.2.2 x).2 ⟨i, hi, hx⟩), h.2.2.1, h.2.2.2⟩
theorem SessAll.nil (w : World) (base : Nat) : SessAll w base [] [] NoB := ⟨rfl, fun _ h => absurd h (Nat.not_lt_zero _), fun _ _ h => absurd h (Nat.not_lt_zero _), fun x => ⟨fun h => h.elim, fun ⟨_, h, _⟩ => absurd h (Nat.not_lt_zero _)⟩⟩
theorem getD_snoc_lt {α : Type} {A : List α} {x d : α} {i : Nat} (h : i < A.length) : (A ++ [x]).getD i d = A.getD i d := by simp [List.getD_eq_getElem?_getD, List.getElem?_append_left h]
theorem getD_snoc_eq {α : Type} {A : List α} {x d : α} : (A ++ [x]).getD A.length d = x := by simp [List.getD_eq_getElem?_getD]
theorem SessAll.snoc (h : SessAll w base S C F) (hL : Own w base 46 1 la l.length (l.map u16v)) (hW : Own w base 46 1 ow o.length (o.map u16v)) (hQ : PostS w base p 16 T Fp) (hd : Dj F Fp) :
    SessAll w base (S ++ [⟨l, o, T⟩]) (C ++ [⟨la, ow, p, Fp⟩]) (fun x => F x ∨ Bl la x ∨ Bl ow x ∨ Fp x) := by
  obtain ⟨h1, h2, h3, h4⟩ := h
  have hlast : ∀ {i}, i < (S ++ [(⟨l, o, T⟩ : KS)]).length → ¬ i < S.length → i = S.length := fun {i} a b => by simp at a; omega
  have eC : (C ++ [(⟨la, ow, p, Fp⟩ : KC)]).getD S.length default = ⟨la, ow, p, Fp⟩ := by rw [← h1]; exact getD_snoc_eq
  have hdj : ∀ i, i < S.length → Dj (C.getD i default).F Fp := fun i hi x hx => hd x ((h4 x).2 ⟨i, hi, .inr (.inr hx)⟩)
  refine ⟨by simp [h1], fun i hi => ?_, fun i j hi hj hne => ?_, fun x => ⟨fun hx => ?_, fun hx => ?_⟩⟩
  · by_cases hs : i < S.length
    · rw [getD_snoc_lt hs, getD_snoc_lt (by rw [h1]; exact hs)]; exact h2 i hs
    · obtain rfl := hlast hi hs
      rw [getD_snoc_eq, eC]; exact ⟨hL, hW, hQ⟩
  · by_cases hs : i < S.length <;> by_cases hs2 : j < S.length
    · rw [getD_snoc_lt (by rw [h1]; exact hs), getD_snoc_lt (by rw [h1]; exact hs2)]; exact h3 i j hs hs2 hne
    · obtain rfl := hlast hj hs2
      rw [getD_snoc_lt (by rw [h1]; exact hs), eC]; exact hdj i hs
    · obtain rfl := hlast hi hs
      rw [eC, getD_snoc_lt (by rw [h1]; exact hs2)]; exact (hdj j hs2).symm
    · exact absurd ((hlast hi hs).trans (hlast hj hs2).symm) hne
  · rcases hx with hx | hx
    · obtain ⟨i, hi, hx⟩ := (h4 x).1 hx
      exact ⟨i, by simp; omega, by rw [getD_snoc_lt (by rw [h1]; exact hi)]; exact hx⟩
    · exact ⟨S.length, by simp, by rw [eC]; exact hx⟩
  · obtain ⟨i, hi, hx⟩ := hx
    by_cases hs : i < S.length
    · rw [getD_snoc_lt (by rw [h1]; exact hs)] at hx; exact .inl ((h4 x).2 ⟨i, hs, hx⟩)
    · obtain rfl := hlast hi hs
      rw [eC] at hx; exact .inr hx
theorem Own.notOwn {e sz n base2 e2 sz2 n2 : Nat} {v v2 : Value} {cs cs2 : List Value} (O : Own w base e sz v n cs) (O2 : Own w base2 e2 sz2 v2 n2 cs2) (h : e ≠ e2) : DJ v v2 := by
  intro x hx hf
  rcases O.2 with ⟨rfl, _⟩ | ⟨g, off, cap, cur, fr, rfl, hb, hg, _⟩
  · cases hx
  · simp only [Value.ownBlock, Option.some.injEq] at hx
    subst hx
    rcases O2.2 with ⟨rfl, _⟩ | ⟨g', off', cap', cur', fr', rfl, hb', hg', _⟩
    · cases hf
    · simp only [Value.ownBlock, Option.some.injEq] at hf
      subst hf
      have := hg.symm.trans hg'; simp at this; exact h this.2.1
theorem SessAll.notBx {b t : Nat} {cs : List Value} (h : SessAll w base S C F) (B : Bx w b t cs) (h1 : t ≠ 126) (h2 : t ≠ 9) (h3 : t ≠ 46) : ¬ F b := fun hf => by
  obtain ⟨i, hi, hf⟩ := (h.2.2.2 b).1 hf
  obtain ⟨a1, a2, a3⟩ := h.2.1 i hi
  rcases hf with hf | hf | hf
  · exact a1.neB B h3 hf
  · exact a2.neB B h3 hf
  · exact a3.notBx B h1 h2 hf
theorem SessAll.notOwn {e sz n base2 : Nat} {v : Value} {cs : List Value} (h : SessAll w base S C F) (O : Own w base2 e sz v n cs) (h1 : e ≠ 126) (h2 : e ≠ 9) (h3 : e ≠ 46) : Dj (Bl v) F := fun x hx hf => by
  obtain ⟨i, hi, hf⟩ := (h.2.2.2 x).1 hf
  obtain ⟨a1, a2, a3⟩ := h.2.1 i hi
  rcases hf with hf | hf | hf
  · exact O.notOwn a1 h3 x hx hf
  · exact O.notOwn a2 h3 x hx hf
  · exact a3.notOwn O h1 h2 x hx hf
theorem SessAll.notMap {K V : Type} {kv : K → Value} {vv : V → Value} {es : List (K × V)} (h : SessAll w base S C F) (M : MapC kv vv w m es) : ¬ F m := fun hf => by
  obtain ⟨i, hi, hf⟩ := (h.2.2.2 m).1 hf
  obtain ⟨a1, a2, a3⟩ := h.2.1 i hi
  rcases hf with hf | hf | hf
  · exact a1.notMap M hf
  · exact a2.notMap M hf
  · exact a3.notMap M hf
theorem KernR.all (h : KernR w base k S M F) : ∃ lv m C F0, base ≤ k ∧ base ≤ m ∧ Bx w k 134 [lv, .map (some m)] ∧ Own w base 137 3 lv S.length (C.flatMap cellsK) ∧ MapC sv (Value.int .u64) w m M ∧ SessAll w base S C F0 ∧ ∀ x, F x ↔ x = k ∨ x = m ∨ Bl lv x ∨ F0 x := by
  obtain ⟨lv, m, C, hk, hm, hC, hx, O, hM, hS, hD, hF⟩ := h
  exact ⟨lv, m, C, _, hk, hm, hx, O, hM, ⟨hC, hS, hD, fun x => Iff.rfl⟩, hF⟩
end
end Go.Gx
namespace Go.Proofs.Ytmhdbphpmgjpcaa
open Go.Gx
end Go.Proofs.Ytmhdbphpmgjpcaa

/- Walks, written by a program: what each function of the translation hands back. -/
namespace Go.Proofs.Ytmhdbphpmgjpcaa
open Go.Gx Go.RowKit
attribute [local irreducible] wpList wpStill Code.wp Calls

theorem isNaN16_ret (m : UInt16) (w : World) : Ret Try.prog 151 #[(Value.int .u16 (m.toNat : Int))] w (fun v' w' => v' = .bool false ∧ w' = w) := by
 have hb := Below.refl w.heap.size w
 refine enter (N := 6) Try.func151 rfl rfl (by simp) fun a0 hN hd hA => ?_
 have s0 : a0.tmps.getD 0 undef = (Value.int .u16 (m.toNat : Int)) := hA 0 (by simp)
 clear hA
 refine seq_any fun K1 hK1 => ?_
 refine one_reg ?_
 refine op_assign rfl ?_
 refine reg_nil ?_
 refine hK1 _ _ ?_
 refine seq_any fun K2 hK2 => ?_
 refine one_reg ?_
 refine op_move (ev_base hN rfl s0) ?_
 refine op_move (ev_base hN rfl s0) ?_
 refine op_neq (ev_hit hN rfl) (ev_hit hN rfl) (fun c5 => ?_) (fun c5 => ?_)
 · -- 5T
  refine op_assign (ev_hit hN rfl) ?_
  refine reg_nil ?_
  refine hK2 _ _ ?_
  refine wp_ret ?_
  refine ret1 rfl hd (ev_hit hN rfl) ⟨_, rfl, ?_⟩
  -- path 5T
  exact (c5 rfl).elim
 · -- 5F
  refine op_assign (ev_hit hN rfl) ?_
  refine reg_nil ?_
  refine hK2 _ _ ?_
  refine wp_ret ?_
  refine ret1 rfl hd (ev_hit hN rfl) ⟨_, rfl, ?_⟩
  -- path 5F
  exact ⟨rfl, rfl⟩

end Go.Proofs.Ytmhdbphpmgjpcaa

/- Walks, written by a program: what each function of the translation hands back. -/
namespace Go.Proofs.Ytmhdbphpmgjpcaa
open Go.Gx Go.RowKit
attribute [local irreducible] wpList wpStill Code.wp Calls
open Go.Sort (insertionSort insOuter insInner swp siftDown heapSort heapBuild heapPop scanUp scanDown partition partLoop partitionEqual partEqLoop scanSorted partialIns bitsLen partialInsertionSort shiftDown shiftUp SortedIn reverseRange reverseLoop fixDown fixUp)
end Go.Proofs.Ytmhdbphpmgjpcaa

/- Walks, written by a program: what each function of the translation hands back. -/
namespace Go.Proofs.Ytmhdbphpmgjpcaa
open Go.Gx Go.RowKit
attribute [local irreducible] wpList wpStill Code.wp Calls
open Go.Sort (insertionSort insOuter insInner swp siftDown heapSort heapBuild heapPop scanUp scanDown partition partLoop partitionEqual partEqLoop scanSorted partialIns bitsLen partialInsertionSort shiftDown shiftUp SortedIn reverseRange reverseLoop fixDown fixUp)
end Go.Proofs.Ytmhdbphpmgjpcaa

/- Walks, written by a program: what each function of the translation hands back. -/
namespace Go.Proofs.Ytmhdbphpmgjpcaa
open Go.Gx Go.RowKit
attribute [local irreducible] wpList wpStill Code.wp Calls
open Go.Sort (insertionSort insOuter insInner swp siftDown heapSort heapBuild heapPop scanUp scanDown partition partLoop partitionEqual partEqLoop scanSorted partialIns bitsLen partialInsertionSort shiftDown shiftUp SortedIn reverseRange reverseLoop fixDown fixUp)
end Go.Proofs.Ytmhdbphpmgjpcaa

/- Walks, written by a program: what each function of the translation hands back. -/
namespace Go.Proofs.Ytmhdbphpmgjpcaa
open Go.Gx Go.RowKit
attribute [local irreducible] wpList wpStill Code.wp Calls
open Go.Sort (insertionSort insOuter insInner swp siftDown heapSort heapBuild heapPop scanUp scanDown partition partLoop partitionEqual partEqLoop scanSorted partialIns bitsLen partialInsertionSort shiftDown shiftUp SortedIn reverseRange reverseLoop fixDown fixUp)
end Go.Proofs.Ytmhdbphpmgjpcaa

/- Walks, written by a program: what each function of the translation hands back. -/
namespace Go.Proofs.Ytmhdbphpmgjpcaa
open Go.Gx Go.RowKit
attribute [local irreducible] wpList wpStill Code.wp Calls
open Go.Sort (insertionSort insOuter insInner swp siftDown heapSort heapBuild heapPop scanUp scanDown partition partLoop partitionEqual partEqLoop scanSorted partialIns bitsLen partialInsertionSort shiftDown shiftUp SortedIn reverseRange reverseLoop fixDown fixUp)
end Go.Proofs.Ytmhdbphpmgjpcaa

/- Walks, written by a program: what each function of the translation hands back. -/
namespace Go.Proofs.Ytmhdbphpmgjpcaa
open Go.Gx Go.RowKit
attribute [local irreducible] wpList wpStill Code.wp Calls
open Go.Sort (insertionSort insOuter insInner swp siftDown heapSort heapBuild heapPop scanUp scanDown partition partLoop partitionEqual partEqLoop scanSorted partialIns bitsLen partialInsertionSort shiftDown shiftUp SortedIn reverseRange reverseLoop fixDown fixUp)
end Go.Proofs.Ytmhdbphpmgjpcaa

/- Walks, written by a program: what each function of the translation hands back. -/
namespace Go.Proofs.Ytmhdbphpmgjpcaa
open Go.Gx Go.RowKit
attribute [local irreducible] wpList wpStill Code.wp Calls
open Go.Sort (insertionSort insOuter insInner swp siftDown heapSort heapBuild heapPop scanUp scanDown partition partLoop partitionEqual partEqLoop scanSorted partialIns bitsLen partialInsertionSort shiftDown shiftUp SortedIn reverseRange reverseLoop fixDown fixUp)
end Go.Proofs.Ytmhdbphpmgjpcaa

/- Walks, written by a program: what each function of the translation hands back. -/
namespace Go.Proofs.Ytmhdbphpmgjpcaa
open Go.Gx Go.RowKit
attribute [local irreducible] wpList wpStill Code.wp Calls
open Go.Sort (insertionSort insOuter insInner swp siftDown heapSort heapBuild heapPop scanUp scanDown partition partLoop partitionEqual partEqLoop scanSorted partialIns bitsLen partialInsertionSort shiftDown shiftUp SortedIn reverseRange reverseLoop fixDown fixUp)
end Go.Proofs.Ytmhdbphpmgjpcaa

/- Walks, written by a program: what each function of the translation hands back. -/
namespace Go.Proofs.Ytmhdbphpmgjpcaa
open Go.Gx Go.RowKit
attribute [local irreducible] wpList wpStill Code.wp Calls
open Go.Sort (insertionSort insOuter insInner swp siftDown heapSort heapBuild heapPop scanUp scanDown partition partLoop partitionEqual partEqLoop scanSorted partialIns bitsLen partialInsertionSort shiftDown shiftUp SortedIn reverseRange reverseLoop fixDown fixUp)
end Go.Proofs.Ytmhdbphpmgjpcaa

/- Walks, written by a program: what each function of the translation hands back. -/
namespace Go.Proofs.Ytmhdbphpmgjpcaa
open Go.Gx Go.RowKit
attribute [local irreducible] wpList wpStill Code.wp Calls
open Go.Sort (insertionSort insOuter insInner swp siftDown heapSort heapBuild heapPop scanUp scanDown partition partLoop partitionEqual partEqLoop scanSorted partialIns bitsLen partialInsertionSort shiftDown shiftUp SortedIn reverseRange reverseLoop fixDown fixUp)
end Go.Proofs.Ytmhdbphpmgjpcaa

/- Walks, written by a program: what each function of the translation hands back. -/
namespace Go.Proofs.Ytmhdbphpmgjpcaa
open Go.Gx Go.RowKit
attribute [local irreducible] wpList wpStill Code.wp Calls
open Go.Sort (insertionSort insOuter insInner swp siftDown heapSort heapBuild heapPop scanUp scanDown partition partLoop partitionEqual partEqLoop scanSorted partialIns bitsLen partialInsertionSort shiftDown shiftUp SortedIn reverseRange reverseLoop fixDown fixUp)
end Go.Proofs.Ytmhdbphpmgjpcaa

/- Walks, written by a program: what each function of the translation hands back. -/
namespace Go.Proofs.Ytmhdbphpmgjpcaa
open Go.Gx Go.RowKit
attribute [local irreducible] wpList wpStill Code.wp Calls
open Go.Sort (insertionSort insOuter insInner swp siftDown heapSort heapBuild heapPop scanUp scanDown partition partLoop partitionEqual partEqLoop scanSorted partialIns bitsLen partialInsertionSort shiftDown shiftUp SortedIn reverseRange reverseLoop fixDown fixUp)
end Go.Proofs.Ytmhdbphpmgjpcaa

/- Walks, written by a program: what each function of the translation hands back. -/
namespace Go.Proofs.Ytmhdbphpmgjpcaa
open Go.Gx Go.RowKit
attribute [local irreducible] wpList wpStill Code.wp Calls
open Go.Sort (insertionSort insOuter insInner swp siftDown heapSort heapBuild heapPop scanUp scanDown partition partLoop partitionEqual partEqLoop scanSorted partialIns bitsLen partialInsertionSort shiftDown shiftUp SortedIn reverseRange reverseLoop fixDown fixUp)
end Go.Proofs.Ytmhdbphpmgjpcaa

/- Walks, written by a program: what each function of the translation hands back. -/
namespace Go.Proofs.Ytmhdbphpmgjpcaa
open Go.Gx Go.RowKit
attribute [local irreducible] wpList wpStill Code.wp Calls

theorem CloneL (l : List UInt16) (v : Value) (w : World) (hz : l.length ≤ 1000000000000) (hl : RdC w 0 w.heap.size 1 v l.length (l.map u16v)) : Ret Try.prog 77 #[v] w (fun v' w' => Below w.heap.size w w' ∧ Own w' w.heap.size 46 1 v' l.length (l.map u16v)) := by
 have hb := Below.refl w.heap.size w
 refine enter (N := 8) Try.func77 rfl rfl (by simp) fun a0 hN hd hA => ?_
 have s0 : a0.tmps.getD 0 undef = v := hA 0 (by simp)
 clear hA
 refine seq_any fun K1 hK1 => ?_
 refine one_reg ?_
 refine op_assign rfl ?_
 refine reg_nil ?_
 refine hK1 _ _ ?_
 refine seq_any fun K2 hK2 => ?_
 refine seq_any fun K3 hK3 => ?_
 refine one_reg ?_
 refine op_move (ev_base hN rfl s0) ?_
 refine op_eql_nil slt54 (ev_hit hN rfl) rfl hl (fun c4 => ?_) ?_
 · -- 4T
  refine reg_nil ?_
  refine hK3 _ _ ?_
  refine wp_cond_true (ev_hit hN rfl) ?_
  refine seq_any fun K4 hK4 => ?_
  refine one_reg ?_
  refine op_assign rfl ?_
  refine reg_nil ?_
  refine hK4 _ _ ?_
  refine wp_ret (then_ret ( ?_))
  refine ret1 rfl hd (ev_hit hN rfl) ⟨_, rfl, ?_⟩
  -- path 4T
  exact ⟨hb, by rw [List.length_eq_zero_iff.1 c4]; exact Own.nil _ _ _ _⟩
 · -- 4F
  refine reg_nil ?_
  refine hK3 _ _ ?_
  refine wp_cond_false (ev_hit hN rfl) ?_
  refine wp_skip ?_
  refine hK2 _ _ ?_
  refine seq_any fun K5 hK5 => ?_
  refine one_reg ?_
  refine op_bslice (e := 46) (pv := []) (cs := []) trivial (by kernel_rfl) ?_
  intro w6 b7 lo_b7 hi_b7 hB9 E8
  have z_w6 := E8.size
  have hl := hl.keep0 E8
  have hb := below_step0 hb E8 hb.size
  refine op_move (ev_base hN rfl s0) ?_
  have hP15 := (Own.ofBx (base := w.heap.size) (sz := 1) (n := 0) hB9 rfl (by decide) (by omega))
  refine op_append slt54 (ev_hit hN rfl) hP15 (ev_hit hN rfl) (Src.ofRd Try.underlying54 (by decide) hl (one_u16 _)) (by unfold maxLen; omega) (by omega) hb.size ?_
  intro v10 w11 hO13 E12 hm14
  have z_w11 := E12.size
  have hl := hl.keepO hP15 E12 (by omega)
  have hb := below_stepO hb hP15 E12 hb.size (by omega)
  have hO13 : Own w11 w.heap.size 46 1 v10 (0 + l.length) ((l).map u16v) := by simpa [u8v, u16v, sv] using hO13
  refine op_assign (ev_hit hN rfl) ?_
  refine reg_nil ?_
  refine hK5 _ _ ?_
  refine wp_ret ?_
  refine ret1 rfl hd (ev_hit hN rfl) ⟨_, rfl, ?_⟩
  -- path 4F
  exact ⟨hb, hO13.cast (by simp) (by simp)⟩

end Go.Proofs.Ytmhdbphpmgjpcaa

/- Transactions and locks as objects: a box that holds a map of boxes. -/
namespace Go.Gx
/-- A transaction, plainly. -/
structure TX where
  label : List UInt16
  stamp : Int
  reads : List (List UInt8 × List UInt16)
  writes : List (List UInt8)
  doomed : Bool
instance : Inhabited TX := ⟨⟨[], 0, [], [], false⟩⟩
/-- A read: the table, where its label lies, and which it is. -/
structure RD where
  tab : List UInt8
  la : Value
  lab : List UInt16
instance : Inhabited RD := ⟨⟨[], .slice none 0 0, []⟩⟩
def cellsRd (r : RD) : List Value := [.string (bs r.tab), r.la]
def rdL (r : RD) : Value × List UInt16 := (r.la, r.lab)
def rOf (r : RD) : List UInt8 × List UInt16 := (r.tab, r.lab)
/-- Where a transaction's parts lie. -/
structure TC where
  p : Nat
  la : Value
  rv : Value
  wv : Value
  D : List RD
instance : Inhabited TC := ⟨⟨0, .slice none 0 0, .slice none 0 0, .slice none 0 0, []⟩⟩
def pv (p : Nat) : Value := ptr p 0
def TxAt (w : World) (base : Nat) (t : TX) (c : TC) : Prop :=
  base ≤ c.p ∧ Bx w c.p 164 [c.la, .int .u64 t.stamp, c.rv, c.wv, .bool t.doomed] ∧ Own w base 46 1 c.la t.label.length (t.label.map u16v) ∧ Own w base 169 2 c.rv c.D.length (c.D.flatMap cellsRd) ∧
    (∀ x9 ∈ c.D.map rdL, Own w base 46 1 x9.1 x9.2.length (x9.2.map u16v)) ∧ Own w base 9 1 c.wv t.writes.length (t.writes.map sv) ∧ c.D.map rOf = t.reads
def PartT (c : TC) (x : Nat) : Prop := x = c.p ∨ Bl c.la x ∨ Bl c.rv x ∨ Bl c.wv x ∨ ∃ r ∈ c.D, Bl r.la x
abbrev TM := List (Int × TX)
def esOf (M : TM) (C : List TC) : List (Int × Nat) := List.zipWith (fun a c => (a.1, c.p)) M C
/-- All transactions. -/
def LkAll (w : World) (base : Nat) (M : TM) (C : List TC) (F : Nat → Prop) : Prop :=
  C.length = M.length ∧ (∀ i, i < M.length → TxAt w base (M.getD i default).2 (C.getD i default)) ∧ (∀ i j, i < M.length → j < M.length → i ≠ j → Dj (PartT (C.getD i default)) (PartT (C.getD j default))) ∧ (∀ x, F x ↔ ∃ i, i < M.length ∧ PartT (C.getD i default) x)
def MapN (w : World) (base : Nat) (mv : Value) (es : List (Int × Nat)) : Prop := (mv = .map none ∧ es = []) ∨ ∃ m, mv = .map (some m) ∧ base ≤ m ∧ MapC (Value.int .i64) pv w m es
/-- Locks: box k, its map, its transactions; F: all its blocks. -/
def LocksR (w : World) (base k : Nat) (M : TM) (F : Nat → Prop) : Prop :=
  ∃ (mv : Value) (C : List TC) (F0 : Nat → Prop), base ≤ k ∧ Bx w k 121 [mv] ∧ MapN w base mv (esOf M C) ∧ LkAll w base M C F0 ∧ (∀ x, F x ↔ x = k ∨ mv = .map (some x) ∨ F0 x)
section
variable {w w' : World} {base k m b t e sz n i j : Nat} {M : TM} {C : List TC} {F G : Nat → Prop} {cs : List Value} {v mv : Value} {T T' : TX} {c c' : TC}
theorem TxAt.lt (h : TxAt w base T c) : ∀ x, PartT c x → base ≤ x ∧ x < w.heap.size := fun x hx => by
  obtain ⟨h0, h1, h2, h3, h4, h5, _⟩ := h
  rcases hx with rfl | hx | hx | hx | ⟨r, hr, hx⟩
  · exact ⟨h0, h1.lt⟩
  · exact h2.lt x hx
  · exact h3.lt x hx
  · exact h5.lt x hx
  · exact (h4 _ (List.mem_map.2 ⟨r, hr, rfl⟩)).lt x hx
theorem TxAt.keepG (h : TxAt w base T c) (E : Gr w w' G) (hd : Dj (PartT c) G) : TxAt w' base T c := by
  obtain ⟨h0, h1, h2, h3, h4, h5, h6⟩ := h
  refine ⟨h0, h1.keepG E (hd _ (.inl rfl)), h2.keepG E fun x hx => hd x (.inr (.inl hx)), h3.keepG E fun x hx => hd x (.inr (.inr (.inl hx))), fun x9 hx9 => (h4 x9 hx9).keepG E fun x hx => ?_, h5.keepG E fun x hx => hd x (.inr (.inr (.inr (.inl hx)))), h6⟩
  obtain ⟨r, hr, rfl⟩ := List.mem_map.1 hx9
  exact hd x (.inr (.inr (.inr (.inr ⟨r, hr, hx⟩))))
theorem TxAt.mono {base' : Nat} (h : TxAt w base T c) (hb : base' ≤ base) : TxAt w base' T c :=
  ⟨Nat.le_trans hb h.1, h.2.1, h.2.2.1.mono hb, h.2.2.2.1.mono hb, fun x9 hx9 => (h.2.2.2.2.1 x9 hx9).mono hb, h.2.2.2.2.2.1.mono hb, h.2.2.2.2.2.2⟩
theorem TxAt.notBx (h : TxAt w base T c) (B : Bx w b t cs) (h1 : t ≠ 164) (h2 : t ≠ 46) (h3 : t ≠ 169) (h4 : t ≠ 9) : ¬ PartT c b := fun hf => by
  obtain ⟨a0, a1, a2, a3, a4, a5, _⟩ := h
  rcases hf with hf | hf | hf | hf | ⟨r, hr, hf⟩
  · exact B.ne a1 h1 hf
  · exact a2.neB B h2 hf
  · exact a3.neB B h3 hf
  · exact a5.neB B h4 hf
  · exact (a4 _ (List.mem_map.2 ⟨r, hr, rfl⟩)).neB B h2 hf
theorem TxAt.notOwn {base2 : Nat} (h : TxAt w base T c) (O : Own w base2 e sz v n cs) (h1 : e ≠ 164) (h2 : e ≠ 46) (h3 : e ≠ 169) (h4 : e ≠ 9) : Dj (Bl v) (PartT c) := fun x hx hf => by
  obtain ⟨a0, a1, a2, a3, a4, a5, _⟩ := h
  rcases hf with rfl | hf | hf | hf | ⟨r, hr, hf⟩
  · exact O.neB a1 (fun q => h1 q.symm) hx
  · exact O.notOwn a2 h2 x hx hf
  · exact O.notOwn a3 h3 x hx hf
  · exact O.notOwn a5 h4 x hx hf
  · exact O.notOwn (a4 _ (List.mem_map.2 ⟨r, hr, rfl⟩)) h2 x hx hf
theorem TxAt.notMap {K V : Type} {kv : K → Value} {vv : V → Value} {es : List (K × V)} (h : TxAt w base T c) (Mp : MapC kv vv w m es) : ¬ PartT c m := fun hf => by
  obtain ⟨a0, a1, a2, a3, a4, a5, _⟩ := h
  rcases hf with hf | hf | hf | hf | ⟨r, hr, hf⟩
  · exact a1.notMap Mp hf.symm
  · exact a2.notMap Mp hf
  · exact a3.notMap Mp hf
  · exact a5.notMap Mp hf
  · exact (a4 _ (List.mem_map.2 ⟨r, hr, rfl⟩)).notMap Mp hf
theorem LkAll.lt (h : LkAll w base M C F) : ∀ x, F x → base ≤ x ∧ x < w.heap.size := fun x hx => by
  obtain ⟨i, hi, hx⟩ := (h.2.2.2 x).1 hx
  exact (h.2.1 i hi).lt x hx
theorem LkAll.keepG (h : LkAll w base M C F) (E : Gr w w' G) (hd : Dj F G) : LkAll w' base M C F :=
  ⟨h.1, fun i hi => (h.2.1 i hi).keepG E fun x hx => hd x ((h.2.2.2 x).2 ⟨i, hi, hx⟩), h.2.2.1, h.2.2.2⟩
theorem LkAll.mono {base' : Nat} (h : LkAll w base M C F) (hb : base' ≤ base) : LkAll w base' M C F := ⟨h.1, fun i hi => (h.2.1 i hi).mono hb, h.2.2⟩
theorem LkAll.nil (w : World) (base : Nat) : LkAll w base [] [] NoB := ⟨rfl, fun _ h => absurd h (Nat.not_lt_zero _), fun _ _ h => absurd h (Nat.not_lt_zero _), fun x => ⟨fun h => h.elim, fun ⟨_, h, _⟩ => absurd h (Nat.not_lt_zero _)⟩⟩
theorem LkAll.notBx (h : LkAll w base M C F) (B : Bx w b t cs) (h1 : t ≠ 164) (h2 : t ≠ 46) (h3 : t ≠ 169) (h4 : t ≠ 9) : ¬ F b := fun hf => by
  obtain ⟨i, hi, hf⟩ := (h.2.2.2 b).1 hf
  exact (h.2.1 i hi).notBx B h1 h2 h3 h4 hf
theorem LkAll.notOwn {base2 : Nat} (h : LkAll w base M C F) (O : Own w base2 e sz v n cs) (h1 : e ≠ 164) (h2 : e ≠ 46) (h3 : e ≠ 169) (h4 : e ≠ 9) : Dj (Bl v) F := fun x hx hf => by
  obtain ⟨i, hi, hf⟩ := (h.2.2.2 x).1 hf
  exact (h.2.1 i hi).notOwn O h1 h2 h3 h4 x hx hf
theorem LkAll.notMap {K V : Type} {kv : K → Value} {vv : V → Value} {es : List (K × V)} (h : LkAll w base M C F) (Mp : MapC kv vv w m es) : ¬ F m := fun hf => by
  obtain ⟨i, hi, hf⟩ := (h.2.2.2 m).1 hf
  exact (h.2.1 i hi).notMap Mp hf
theorem LkAll.snoc (h : LkAll w base M C F) {n : Int} (hT : TxAt w base T c) (hd : Dj F (PartT c)) : LkAll w base (M ++ [(n, T)]) (C ++ [c]) (fun x => F x ∨ PartT c x) := by
  obtain ⟨h1, h2, h3, h4⟩ := h
  have hlast : ∀ {i}, i < (M ++ [(n, T)]).length → ¬ i < M.length → i = M.length := fun {i} a b => by simp at a; omega
  have eC : (C ++ [c]).getD M.length default = c := by rw [← h1]; exact getD_snoc_eq
  have eM : (M ++ [(n, T)]).getD M.length default = (n, T) := getD_snoc_eq
  have hdj : ∀ i, i < M.length → Dj (PartT (C.getD i default)) (PartT c) := fun i hi x hx => hd x ((h4 x).2 ⟨i, hi, hx⟩)
  refine ⟨by simp [h1], fun i hi => ?_, fun i j hi hj hne => ?_, fun x => ⟨fun hx => ?_, fun hx => ?_⟩⟩
  · by_cases hs : i < M.length
    · rw [getD_snoc_lt hs, getD_snoc_lt (by rw [h1]; exact hs)]; exact h2 i hs
    · obtain rfl := hlast hi hs
      rw [eM, eC]; exact hT
  · by_cases hs : i < M.length <;> by_cases hs2 : j < M.length
    · rw [getD_snoc_lt (by rw [h1]; exact hs), getD_snoc_lt (by rw [h1]; exact hs2)]; exact h3 i j hs hs2 hne
    · obtain rfl := hlast hj hs2
      rw [getD_snoc_lt (by rw [h1]; exact hs), eC]; exact hdj i hs
    · obtain rfl := hlast hi hs
      rw [eC, getD_snoc_lt (by rw [h1]; exact hs2)]; exact (hdj j hs2).symm
    · exact absurd ((hlast hi hs).trans (hlast hj hs2).symm) hne
  · rcases hx with hx | hx
    · obtain ⟨i, hi, hx⟩ := (h4 x).1 hx
      exact ⟨i, by simp; omega, by rw [getD_snoc_lt (by rw [h1]; exact hi)]; exact hx⟩
    · exact ⟨M.length, by simp, by rw [eC]; exact hx⟩
  · obtain ⟨i, hi, hx⟩ := hx
    by_cases hs : i < M.length
    · rw [getD_snoc_lt (by rw [h1]; exact hs)] at hx; exact .inl ((h4 x).2 ⟨i, hs, hx⟩)
    · obtain rfl := hlast hi hs
      rw [eC] at hx; exact .inr hx
theorem getD_erase {α : Type} {l : List α} {i j : Nat} {d : α} : (l.eraseIdx j).getD i d = if i < j then l.getD i d else l.getD (i + 1) d := by
  simp only [List.getD_eq_getElem?_getD, List.getElem?_eraseIdx]
  split <;> rfl
theorem LkAll.erase (h : LkAll w base M C F) (hj : j < M.length) : ∃ F2, LkAll w base (M.eraseIdx j) (C.eraseIdx j) F2 ∧ ∀ x, F2 x → F x := by
  obtain ⟨h1, h2, h3, h4⟩ := h
  have hl : (M.eraseIdx j).length = M.length - 1 := by rw [List.length_eraseIdx, if_pos hj]
  have up : ∀ i, i < (M.eraseIdx j).length → (if i < j then i else i + 1) < M.length := fun i hi => by split <;> omega
  have gM : ∀ i, (M.eraseIdx j).getD i default = M.getD (if i < j then i else i + 1) default := fun i => by rw [getD_erase]; split <;> rfl
  have gC : ∀ i, (C.eraseIdx j).getD i default = C.getD (if i < j then i else i + 1) default := fun i => by rw [getD_erase]; split <;> rfl
  refine ⟨_, ⟨by rw [List.length_eraseIdx, if_pos (by omega), hl, h1], fun i hi => ?_, fun a b ha hb hab => ?_, fun x => Iff.rfl⟩, fun x hx => ?_⟩
  · rw [gM, gC]; exact h2 _ (up i hi)
  · rw [gC, gC]
    refine h3 _ _ (up a ha) (up b hb) ?_
    split <;> split <;> omega
  · obtain ⟨i, hi, hx⟩ := hx
    rw [gC] at hx
    exact (h4 x).2 ⟨_, up i hi, hx⟩
/-- One transaction turns. -/
theorem LkAll.turn (h : LkAll w base M C F) (hi : i < M.length) {n : Int} (E : Gr w w' (PartT (C.getD i default))) (hT : TxAt w' base T' c') (hN : ∀ x, PartT c' x → PartT (C.getD i default) x ∨ w.heap.size ≤ x) :
    Gr w w' F ∧ ∃ F2, LkAll w' base (M.set i (n, T')) (C.set i c') F2 ∧ NewF w.heap.size F F2 := by
  obtain ⟨h1, h2, h3, h4⟩ := h
  have hiC : i < C.length := by rw [h1]; exact hi
  have gC : ∀ j, (C.set i c').getD j default = if j = i then c' else C.getD j default := fun j => getD_set hiC
  have gM : ∀ j, (M.set i (n, T')).getD j default = if j = i then (n, T') else M.getD j default := fun j => getD_set hi
  refine ⟨E.mono fun x _ hx => (h4 x).2 ⟨i, hi, hx⟩, _, ⟨by simp [h1], fun j hj => ?_, fun a b ha hb hab => ?_, fun x => Iff.rfl⟩, fun x hx => ?_⟩
  · rw [List.length_set] at hj
    rw [gM, gC]
    by_cases hji : j = i
    · rw [if_pos hji, if_pos hji]; exact hT
    · rw [if_neg hji, if_neg hji]; exact (h2 j hj).keepG E (h3 j i hj hi hji)
  · rw [List.length_set] at ha hb
    rw [gC, gC]
    by_cases q1 : a = i <;> by_cases q2 : b = i
    · exact absurd (q1.trans q2.symm) hab
    · rw [if_pos q1, if_neg q2]
      exact (Dj.stepF hN (fun x hx => ((h2 b hb).lt x hx).2) (h3 b i hb hi q2)).symm
    · rw [if_neg q1, if_pos q2]
      exact Dj.stepF hN (fun x hx => ((h2 a ha).lt x hx).2) (h3 a i ha hi q1)
    · rw [if_neg q1, if_neg q2]; exact h3 a b ha hb hab
  · obtain ⟨j, hj, hx⟩ := hx
    rw [List.length_set] at hj
    rw [gC] at hx
    by_cases hji : j = i
    · rw [if_pos hji] at hx
      exact (hN x hx).imp (fun q => (h4 x).2 ⟨i, hi, q⟩) id
    · rw [if_neg hji] at hx
      exact .inl ((h4 x).2 ⟨j, hj, hx⟩)
theorem el_rdd {D : List RD} {e : Int} {i : Nat} (he : e = (i : Int)) (h : i < D.length) : ∀ j u, ([.string (bs (D.getD i default).tab), (D.getD i default).la] : List Value)[j]? = some u → (D.flatMap cellsRd)[e.toNat * 2 + j]? = some u :=
  el_flat (f := cellsRd) (d := default) (by decide) (fun _ _ => rfl) he h
/-! the map's own list -/
theorem esOf_len (h : C.length = M.length) : (esOf M C).length = M.length := by unfold esOf; simp [h]
theorem esOf_keys (h : C.length = M.length) : (esOf M C).map Prod.fst = M.map Prod.fst := by
  unfold esOf
  apply List.ext_getElem?
  intro i
  simp only [List.getElem?_map, List.getElem?_zipWith]
  by_cases hi : i < M.length
  · rw [List.getElem?_eq_getElem hi, List.getElem?_eq_getElem (by omega)]; rfl
  · rw [List.getElem?_eq_none (by omega), List.getElem?_eq_none (by omega)]; rfl
theorem esOf_look : ∀ {M : TM} {C : List TC} {n : Int}, C.length = M.length → mlook (esOf M C) n = (mlook M n).map fun q => (q.1, (C.getD q.1 default).p)
  | [], [], _, _ => rfl
  | [], _ :: _, _, h => by cases h
  | _ :: _, [], _, h => by cases h
  | (a, t) :: M, c :: C, n, h => by
    have ih := esOf_look (M := M) (C := C) (n := n) (by simpa using h)
    unfold esOf at ih ⊢
    simp only [List.zipWith_cons_cons, mlook]
    split
    · rfl
    · rw [ih]; cases mlook M n <;> rfl
theorem esOf_set (h : C.length = M.length) {n : Int} (hp : c'.p = (C.getD i default).p) (hk : i < M.length → (M.getD i default).1 = n) : esOf (M.set i (n, T')) (C.set i c') = esOf M C := by
  unfold esOf
  apply List.ext_getElem?
  intro q
  simp only [List.getElem?_zipWith, List.getElem?_set]
  by_cases hq : i = q
  · subst hq
    by_cases hi : i < M.length
    · have hiC : i < C.length := by omega
      rw [if_pos rfl, if_pos hi, if_pos rfl, if_pos hiC, List.getElem?_eq_getElem hi, List.getElem?_eq_getElem hiC]
      have h1 := hk hi
      simp only [List.getD_eq_getElem?_getD, List.getElem?_eq_getElem hi, List.getElem?_eq_getElem hiC, Option.getD_some] at h1 hp
      simp only []
      rw [h1, hp]
    · rw [if_pos rfl, if_neg hi, if_pos rfl, if_neg (by omega), List.getElem?_eq_none (by omega), List.getElem?_eq_none (by omega)]
  · rw [if_neg hq, if_neg hq]
theorem esOf_snoc (h : C.length = M.length) {n : Int} : esOf (M ++ [(n, T)]) (C ++ [c]) = esOf M C ++ [(n, c.p)] := by
  unfold esOf
  rw [List.zipWith_append (by omega)]; rfl
theorem esOf_erase (h : C.length = M.length) : esOf (M.eraseIdx j) (C.eraseIdx j) = (esOf M C).eraseIdx j := by
  unfold esOf
  apply List.ext_getElem?
  intro q
  simp only [List.getElem?_zipWith, List.getElem?_eraseIdx]
  by_cases hq : q < j
  · simp only [if_pos hq]
  · simp only [if_neg hq]
/-! the whole -/
theorem LocksR.lt (h : LocksR w base k M F) : ∀ x, F x → base ≤ x ∧ x < w.heap.size := by
  obtain ⟨mv, C, F0, hk, hx, hM, hA, hF⟩ := h
  intro x hf
  rcases (hF x).1 hf with rfl | hf | hf
  · exact ⟨hk, hx.lt⟩
  · rcases hM with ⟨rfl, _⟩ | ⟨m, rfl, hm, hM⟩
    · cases hf
    · injection hf with hf; injection hf with hf; subst hf; exact ⟨hm, hM.lt⟩
  · exact hA.lt x hf
theorem LocksR.keepG (h : LocksR w base k M F) (E : Gr w w' G) (hd : Dj F G) : LocksR w' base k M F := by
  obtain ⟨mv, C, F0, hk, hx, hM, hA, hF⟩ := h
  refine ⟨mv, C, F0, hk, hx.keepG E (hd k ((hF k).2 (.inl rfl))), ?_, hA.keepG E (fun x hx => hd x ((hF x).2 (.inr (.inr hx)))), hF⟩
  rcases hM with hM | ⟨m, rfl, hm, hM⟩
  · exact .inl hM
  · exact .inr ⟨m, rfl, hm, hM.keepG E (hd m ((hF m).2 (.inr (.inl rfl))))⟩
theorem LocksR.mono {base' : Nat} (h : LocksR w base k M F) (hb : base' ≤ base) : LocksR w base' k M F := by
  obtain ⟨mv, C, F0, hk, hx, hM, hA, hF⟩ := h
  refine ⟨mv, C, F0, Nat.le_trans hb hk, hx, ?_, hA.mono hb, hF⟩
  rcases hM with hM | ⟨m, rfl, hm, hM⟩
  · exact .inl hM
  · exact .inr ⟨m, rfl, Nat.le_trans hb hm, hM⟩
end
end Go.Gx

/- Small laws for walks, the thirty-fourth part: pointers that are not nil. -/
namespace Go.Gx
open Go.RowKit
section
variable {P : Program} {Q : Exit → Act → World → Prop} {a : Act} {w w' : World} {l : List (Nat × Value)} {ops : Array Oper} {rest : List Oper}
variable {d ty t e xt yt : Nat} {p : String} {af : Array Edge} {x y : Operand} {b off : Nat}
end
end Go.Gx

/- Small laws for walks, the thirty-fifth part: functions that are handed in. -/
namespace Go.Gx
open Go.RowKit
section
variable {P : Program} {Q : Exit → Act → World → Prop} {a : Act} {w : World} {l : List (Nat × Value)} {ops : Array Oper} {rest : List Oper}
variable {d ty : Nat} {p : String} {af : Array Edge}
theorem op_mkfn1 {f : FuncId} {fo co : List Operand} {fv cv : List Value} (hf : argsEv (putsL a l).eval fo fv) (hm : argsEv (putsL a l).eval co cv) (h : wpList P ops Q rest (putsL a ((d, .func (.func f) fv.toArray cv.toArray) :: l)) w) :
    wpList P ops Q (⟨some d, .makeFunc (.func f) fo.toArray co.toArray, ty, p, af, none⟩ :: rest) (putsL a l) w :=
  op_gen rfl (by
    simp only [execOp]
    rw [List.map_toArray, argsEv_map hf, List.map_toArray, argsEv_map hm]
    rfl) h
end
section
variable {K V : Type} {P : Program} {Q : Exit → Act → World → Prop} {a : Act} {w w' : World} {l : List (Nat × Value)} {ops : Array Oper} {rest : List Oper}
variable {ty mt kt et m : Nat} {p : String} {af : Array Edge} {x y : Operand} {kv : K → Value} {vv : V → Value} {es : List (K × V)} {k : K}
theorem op_mapdel0 [DecidableEq K] (ht : P.underlying mt = some (.map kt et)) (T : KeyT P kt kv) (hx : (putsL a l).eval x = .map (some m)) (hy : (putsL a l).eval y = kv k) (M : MapC kv vv w m es) (h : ∀ w', MapC kv vv w' m (mdel es k) → w.grownBy w' (some m) → wpList P ops Q rest (putsL a l) w') :
    wpList P ops Q (⟨none, .call ⟨.builtin .delete, #[x, y], #[mt, kt]⟩, ty, p, af, none⟩ :: rest) (putsL a l) w := by
  obtain ⟨w', hr, M', E⟩ := run_delete (P := P) (ty := ty) ht T M k
  exact op_gen (w' := w') (v := .tuple #[]) rfl (by simp [execOp, hx, hy, resolve, invoke, builtin, hr]) (h w' M' E)
end
theorem rd_len {w : World} {L B sz n : Nat} {v : Value} {cs : List Value} (h : RdC w L B sz v n cs) : n ≤ 9223372036854775807 := by obtain ⟨_, _, _, _, hq, hm, _⟩ := h; exact Nat.le_trans hq hm
theorem idx_t {n : Int} {b : Bool} (h : 0 ≤ n ↔ b = true) (c : 0 ≤ n) : true = b := (h.1 c).symm
theorem idx_f {n : Int} {b : Bool} (h : 0 ≤ n ↔ b = true) (c : ¬ 0 ≤ n) : false = b := by
  cases b with
  | false => rfl
  | true => exact absurd (h.2 rfl) c
theorem any_step {α : Type} {L : List α} {p : α → Bool} {i : Nat} {d : α} (hi : i < L.length) (h : (L.take i).any p = false) (h2 : p (L.getD i d) = false) : (L.take (i + 1)).any p = false := by
  have e : L.take (i + 1) = L.take i ++ [L.getD i d] := by simp [List.getD_eq_getElem?_getD, hi]
  rw [e, List.any_append, h, List.any_cons, h2]; rfl
theorem any_hit {α : Type} {L : List α} {p : α → Bool} {i : Nat} {d : α} (hi : i < L.length) (h2 : p (L.getD i d) = true) : L.any p = true := by
  rw [List.any_eq_true]; exact ⟨_, getD_mem hi, h2⟩
theorem any_end {α : Type} {L : List α} {p : α → Bool} {i : Nat} (hi : L.length ≤ i) (h : (L.take i).any p = false) : L.any p = false := by
  rw [List.take_of_length_le hi] at h; exact h
end Go.Gx

/- Walks, written by a program: what each function of the translation hands back. -/
namespace Go.Proofs.Ytmhdbphpmgjpcaa
open Go.Gx Go.RowKit
attribute [local irreducible] wpList wpStill Code.wp Calls

theorem IdxF_s {L : List (List UInt8)} {v : Value} {p : (List UInt8) → Bool} {w : World} (hl : RdC w 0 w.heap.size 1 v L.length (L.map sv)) {g : Nat} {fs cs : List Value} (hokg : callOk Try.prog g = true) (hf : ∀ i, i < L.length → ∀ w1, Below w.heap.size w w1 → Ret Try.prog g (fs ++ [Value.string (bs (L.getD i []))] ++ cs).toArray w1 (fun v' w' => Below w1.heap.size w1 w' ∧ v' = .bool (p (L.getD i [])))) : Ret Try.prog 141 #[v, (Value.func (.func g) fs.toArray cs.toArray)] w (fun v' w' => Below w.heap.size w w' ∧ ∃ n : Int, v' = .int .i64 n ∧ (0 ≤ n ↔ L.any p = true)) := by
 have hlm := rd_len hl
 have hb := Below.refl w.heap.size w
 refine enter (N := 19) Try.func141 rfl rfl (by simp) fun a0 hN hd hA => ?_
 have s0 : a0.tmps.getD 0 undef = v := hA 0 (by simp)
 have s1 : a0.tmps.getD 1 undef = (Value.func (.func g) fs.toArray cs.toArray) := hA 1 (by simp)
 clear hA
 refine seq_any fun K1 hK1 => ?_
 refine one_reg ?_
 refine op_assign rfl ?_
 refine reg_nil ?_
 refine hK1 _ _ ?_
 refine seq_any fun K2 hK2 => ?_
 refine seq_any fun K3 hK3 => ?_
 refine one_reg ?_
 refine op_move (ev_base hN rfl s0) ?_
 refine op_len_rd Try.underlying26 (ev_hit hN rfl) hl ?_
 refine op_move rfl ?_
 refine reg_nil ?_
 refine hK3 _ _ ?_
 refine wp_block ?_
 refine loop_m (fun mz_ az_ w' => ∃ (i : Nat), mz_ = L.length - i ∧ (az_.tmps.getD 0 undef = v) ∧ (az_.tmps.getD 1 undef = (Value.func (.func g) fs.toArray cs.toArray)) ∧ (az_.tmps.getD 7 undef = (Value.int .i64 ((L.length : Nat) : Int))) ∧ (az_.tmps.getD 8 undef = (Value.int .i64 ((i : Nat) : Int))) ∧ (i ≤ L.length) ∧ ((L.take i).any p = false) ∧ (Below w.heap.size w w') ∧ (w.heap.size ≤ w'.heap.size) ∧ (RdC w' 0 w.heap.size 1 v L.length (L.map sv))) _ hN hd ⟨0, rfl, (sl_base hN rfl s0), (sl_base hN rfl s1), (sl_hit hN rfl), (sl_hit hN rfl), (Nat.zero_le _), rfl, hb, (Nat.le_refl _), hl⟩ ?_
 rintro _ a4 w4 hN4 hd4 ⟨i, rfl, s4_0, s4_1, s4_7, s4_8, hi, hnone, hb, zl_w4, hl⟩
 have z_w4 := hb.size
 refine seq_any fun K5 hK5 => ?_
 refine one_reg ?_
 refine op_lss (ev_base hN4 rfl s4_8) (ev_base hN4 rfl s4_7) (fun c9 => ?_) (fun c9 => ?_)
 · -- 9T
  refine reg_nil ?_
  refine hK5 _ _ ?_
  refine seq_any fun K6 hK6 => ?_
  refine wp_cond_true (ev_hit hN4 rfl) ?_
  refine wp_skip ?_
  refine hK6 _ _ ?_
  refine seq_any fun K7 hK7 => ?_
  refine wp_block ?_
  refine seq_any fun K8 hK8 => ?_
  refine one_reg ?_
  refine op_move (ev_base hN4 rfl s4_8) ?_
  refine op_assign (ev_hit hN4 rfl) ?_
  refine reg_nil ?_
  refine hK8 _ _ ?_
  refine seq_any fun K9 hK9 => ?_
  refine one_reg ?_
  refine op_move (ev_base hN4 rfl s4_1) ?_
  refine op_move (ev_base hN4 rfl s4_0) ?_
  refine op_move (ev_hit hN4 rfl) ?_
  refine op_index_rd slt26 (ev_hit hN4 rfl) hl (ev_hit hN4 rfl) (by omega) (by omega) ?_
  intro b10 o11 h0b10 h1b10 hc12
  refine op_load1 (v := (Value.string (bs (L.getD i [])))) one9 (ev_hit hN4 rfl) (by have := hc12 0 (Value.string (bs (L.getD i []))) (by decide) (el_sv (i := i) (by omega) (by omega)); simpa using this) ?_
  refine op_fnv (fs := fs) (vs := [(Value.string (bs (L.getD i [])))]) (cs := cs) (ev_hit hN4 rfl) hokg ⟨(ev_hit hN4 rfl), trivial⟩ (hf i (by omega) _ hb) ?_
  rintro _ w13 ⟨E14, rfl⟩
  have E14 := grown_of_below E14
  have z_w13 := E14.size
  have hl := hl.keep0 E14
  have hb := below_step0 hb E14 hb.size
  rcases Bool.eq_false_or_eq_true ((p (L.getD i []))) with c16 | c16
  · -- 16T
   rw [c16]
   refine reg_nil ?_
   refine hK9 _ _ ?_
   refine wp_cond_true (ev_hit hN4 rfl) ?_
   refine seq_any fun K15 hK15 => ?_
   refine one_reg ?_
   refine op_move (ev_hit hN4 rfl) ?_
   refine op_assign (ev_hit hN4 rfl) ?_
   refine reg_nil ?_
   refine hK15 _ _ ?_
   refine wp_ret (blk_ret (then_ret (then_ret (blk_ret (then_ret ( ?_))))))
   refine ret1 rfl hd4 (ev_hit hN4 rfl) ⟨_, rfl, ?_⟩
   -- path 9T 16T
   exact ⟨hb, _, rfl, ⟨fun _ => any_hit (by omega) c16, fun _ => by omega⟩⟩
  · -- 16F
   rw [c16]
   refine reg_nil ?_
   refine hK9 _ _ ?_
   refine wp_cond_false (ev_hit hN4 rfl) ?_
   refine wp_skip ?_
   refine hK7 _ _ ?_
   refine one_reg ?_
   refine op_add (ev_base hN4 rfl s4_8) rfl (add64 (by omega)) ?_
   refine op_move (ev_hit hN4 rfl) ?_
   refine reg_nil ?_
   -- round 9T 16F
   exact loop_next _ hN4 hd4 ⟨(i + 1), rfl, (sl_base hN4 rfl s4_0), (sl_base hN4 rfl s4_1), (sl_base hN4 rfl s4_7), (sl_hit hN4 rfl).trans (congrArg (Value.int .i64) (by omega)), (by omega), (any_step (by omega) hnone c16), hb, (by omega), hl⟩ (by omega)
 · -- 9F
  refine reg_nil ?_
  refine hK5 _ _ ?_
  refine seq_any fun K16 hK16 => ?_
  refine wp_cond_false (ev_hit hN4 rfl) ?_
  refine wp_exit (then_exit (then_exit (blk_hit ?_)))
  refine hK2 _ _ ?_
  refine seq_any fun K17 hK17 => ?_
  refine one_reg ?_
  refine op_assign rfl ?_
  refine reg_nil ?_
  refine hK17 _ _ ?_
  refine wp_ret ?_
  refine ret1 rfl hd4 (ev_hit hN4 rfl) ⟨_, rfl, ?_⟩
  -- path 9F
  exact ⟨hb, _, rfl, ⟨fun h => absurd h (by decide), fun h => by rw [any_end (by omega) hnone] at h; cases h⟩⟩

theorem ContF_s {L : List (List UInt8)} {v : Value} {p : (List UInt8) → Bool} {w : World} (hl : RdC w 0 w.heap.size 1 v L.length (L.map sv)) {g : Nat} {fs cs : List Value} (hokg : callOk Try.prog g = true) (hf : ∀ i, i < L.length → ∀ w1, Below w.heap.size w w1 → Ret Try.prog g (fs ++ [Value.string (bs (L.getD i []))] ++ cs).toArray w1 (fun v' w' => Below w1.heap.size w1 w' ∧ v' = .bool (p (L.getD i [])))) : Ret Try.prog 124 #[v, (Value.func (.func g) fs.toArray cs.toArray)] w (fun v' w' => Below w.heap.size w w' ∧ v' = .bool (L.any p)) := by
 have hb := Below.refl w.heap.size w
 refine enter (N := 9) Try.func124 rfl rfl (by simp) fun a0 hN hd hA => ?_
 have s0 : a0.tmps.getD 0 undef = v := hA 0 (by simp)
 have s1 : a0.tmps.getD 1 undef = (Value.func (.func g) fs.toArray cs.toArray) := hA 1 (by simp)
 clear hA
 refine seq_any fun K18 hK18 => ?_
 refine one_reg ?_
 refine op_assign rfl ?_
 refine reg_nil ?_
 refine hK18 _ _ ?_
 refine seq_any fun K19 hK19 => ?_
 refine one_reg ?_
 refine op_move (ev_base hN rfl s0) ?_
 refine op_move (ev_base hN rfl s1) ?_
 refine op_fn (vs := [v, (Value.func (.func g) fs.toArray cs.toArray)]) ok141 ⟨(ev_hit hN rfl), ⟨(ev_hit hN rfl), trivial⟩⟩ (IdxF_s hl hokg hf) ?_
 rintro _ w21 ⟨E22, n20, rfl, hnn20⟩
 have E22 := grown_of_below E22
 have z_w21 := E22.size
 have hl := hl.keep0 E22
 have hb := below_step0 hb E22 hb.size
 refine op_geq (ev_hit hN rfl) rfl (fun c8 => ?_) (fun c8 => ?_)
 · -- 8T
  refine op_assign (ev_hit hN rfl) ?_
  refine reg_nil ?_
  refine hK19 _ _ ?_
  refine wp_ret ?_
  refine ret1 rfl hd (ev_hit hN rfl) ⟨_, rfl, ?_⟩
  -- path 8T
  exact ⟨hb, congrArg Value.bool (idx_t (by assumption) c8)⟩
 · -- 8F
  refine op_assign (ev_hit hN rfl) ?_
  refine reg_nil ?_
  refine hK19 _ _ ?_
  refine wp_ret ?_
  refine ret1 rfl hd (ev_hit hN rfl) ⟨_, rfl, ?_⟩
  -- path 8F
  exact ⟨hb, congrArg Value.bool (idx_f (by assumption) c8)⟩

theorem IdxF_r {L : List RD} {v : Value} {p : RD → Bool} {w : World} (hl : RdC w 0 w.heap.size 2 v L.length (L.flatMap cellsRd)) {g : Nat} {fs cs : List Value} (hokg : callOk Try.prog g = true) (hf : ∀ i, i < L.length → ∀ w1, Below w.heap.size w w1 → Ret Try.prog g (fs ++ [Value.agg #[.string (bs (L.getD i default).tab), (L.getD i default).la]] ++ cs).toArray w1 (fun v' w' => Below w1.heap.size w1 w' ∧ v' = .bool (p (L.getD i default)))) : Ret Try.prog 143 #[v, (Value.func (.func g) fs.toArray cs.toArray)] w (fun v' w' => Below w.heap.size w w' ∧ ∃ n : Int, v' = .int .i64 n ∧ (0 ≤ n ↔ L.any p = true)) := by
 have hlm := rd_len hl
 have hb := Below.refl w.heap.size w
 refine enter (N := 19) Try.func143 rfl rfl (by simp) fun a0 hN hd hA => ?_
 have s0 : a0.tmps.getD 0 undef = v := hA 0 (by simp)
 have s1 : a0.tmps.getD 1 undef = (Value.func (.func g) fs.toArray cs.toArray) := hA 1 (by simp)
 clear hA
 refine seq_any fun K23 hK23 => ?_
 refine one_reg ?_
 refine op_assign rfl ?_
 refine reg_nil ?_
 refine hK23 _ _ ?_
 refine seq_any fun K24 hK24 => ?_
 refine seq_any fun K25 hK25 => ?_
 refine one_reg ?_
 refine op_move (ev_base hN rfl s0) ?_
 refine op_len_rd Try.underlying158 (ev_hit hN rfl) hl ?_
 refine op_move rfl ?_
 refine reg_nil ?_
 refine hK25 _ _ ?_
 refine wp_block ?_
 refine loop_m (fun mz_ az_ w' => ∃ (i : Nat), mz_ = L.length - i ∧ (az_.tmps.getD 0 undef = v) ∧ (az_.tmps.getD 1 undef = (Value.func (.func g) fs.toArray cs.toArray)) ∧ (az_.tmps.getD 7 undef = (Value.int .i64 ((L.length : Nat) : Int))) ∧ (az_.tmps.getD 8 undef = (Value.int .i64 ((i : Nat) : Int))) ∧ (i ≤ L.length) ∧ ((L.take i).any p = false) ∧ (Below w.heap.size w w') ∧ (w.heap.size ≤ w'.heap.size) ∧ (RdC w' 0 w.heap.size 2 v L.length (L.flatMap cellsRd))) _ hN hd ⟨0, rfl, (sl_base hN rfl s0), (sl_base hN rfl s1), (sl_hit hN rfl), (sl_hit hN rfl), (Nat.zero_le _), rfl, hb, (Nat.le_refl _), hl⟩ ?_
 rintro _ a26 w26 hN26 hd26 ⟨i, rfl, s26_0, s26_1, s26_7, s26_8, hi, hnone, hb, zl_w26, hl⟩
 have z_w26 := hb.size
 refine seq_any fun K27 hK27 => ?_
 refine one_reg ?_
 refine op_lss (ev_base hN26 rfl s26_8) (ev_base hN26 rfl s26_7) (fun c9 => ?_) (fun c9 => ?_)
 · -- 9T
  refine reg_nil ?_
  refine hK27 _ _ ?_
  refine seq_any fun K28 hK28 => ?_
  refine wp_cond_true (ev_hit hN26 rfl) ?_
  refine wp_skip ?_
  refine hK28 _ _ ?_
  refine seq_any fun K29 hK29 => ?_
  refine wp_block ?_
  refine seq_any fun K30 hK30 => ?_
  refine one_reg ?_
  refine op_move (ev_base hN26 rfl s26_8) ?_
  refine op_assign (ev_hit hN26 rfl) ?_
  refine reg_nil ?_
  refine hK30 _ _ ?_
  refine seq_any fun K31 hK31 => ?_
  refine one_reg ?_
  refine op_move (ev_base hN26 rfl s26_1) ?_
  refine op_move (ev_base hN26 rfl s26_0) ?_
  refine op_move (ev_hit hN26 rfl) ?_
  refine op_index_rd slt158 (ev_hit hN26 rfl) hl (ev_hit hN26 rfl) (by omega) (by omega) ?_
  intro b32 o33 h0b32 h1b32 hc34
  refine op_loadA (cs := [(Value.string (bs (L.getD i default).tab)), (L.getD i default).la]) agg169 rfl (ev_hit hN26 rfl) (fun j u hu => hc34 j u (by have := (List.getElem?_eq_some_iff.1 hu).1; simpa using this) ((el_rdd (i := i) (by omega) (by omega)) j u hu)) ?_
  refine op_fnv (fs := fs) (vs := [(Value.agg #[(Value.string (bs (L.getD i default).tab)), (L.getD i default).la])]) (cs := cs) (ev_hit hN26 rfl) hokg ⟨(ev_hit hN26 rfl), trivial⟩ (hf i (by omega) _ hb) ?_
  rintro _ w35 ⟨E36, rfl⟩
  have E36 := grown_of_below E36
  have z_w35 := E36.size
  have hl := hl.keep0 E36
  have hb := below_step0 hb E36 hb.size
  rcases Bool.eq_false_or_eq_true ((p (L.getD i default))) with c16 | c16
  · -- 16T
   rw [c16]
   refine reg_nil ?_
   refine hK31 _ _ ?_
   refine wp_cond_true (ev_hit hN26 rfl) ?_
   refine seq_any fun K37 hK37 => ?_
   refine one_reg ?_
   refine op_move (ev_hit hN26 rfl) ?_
   refine op_assign (ev_hit hN26 rfl) ?_
   refine reg_nil ?_
   refine hK37 _ _ ?_
   refine wp_ret (blk_ret (then_ret (then_ret (blk_ret (then_ret ( ?_))))))
   refine ret1 rfl hd26 (ev_hit hN26 rfl) ⟨_, rfl, ?_⟩
   -- path 9T 16T
   exact ⟨hb, _, rfl, ⟨fun _ => any_hit (by omega) c16, fun _ => by omega⟩⟩
  · -- 16F
   rw [c16]
   refine reg_nil ?_
   refine hK31 _ _ ?_
   refine wp_cond_false (ev_hit hN26 rfl) ?_
   refine wp_skip ?_
   refine hK29 _ _ ?_
   refine one_reg ?_
   refine op_add (ev_base hN26 rfl s26_8) rfl (add64 (by omega)) ?_
   refine op_move (ev_hit hN26 rfl) ?_
   refine reg_nil ?_
   -- round 9T 16F
   exact loop_next _ hN26 hd26 ⟨(i + 1), rfl, (sl_base hN26 rfl s26_0), (sl_base hN26 rfl s26_1), (sl_base hN26 rfl s26_7), (sl_hit hN26 rfl).trans (congrArg (Value.int .i64) (by omega)), (by omega), (any_step (by omega) hnone c16), hb, (by omega), hl⟩ (by omega)
 · -- 9F
  refine reg_nil ?_
  refine hK27 _ _ ?_
  refine seq_any fun K38 hK38 => ?_
  refine wp_cond_false (ev_hit hN26 rfl) ?_
  refine wp_exit (then_exit (then_exit (blk_hit ?_)))
  refine hK24 _ _ ?_
  refine seq_any fun K39 hK39 => ?_
  refine one_reg ?_
  refine op_assign rfl ?_
  refine reg_nil ?_
  refine hK39 _ _ ?_
  refine wp_ret ?_
  refine ret1 rfl hd26 (ev_hit hN26 rfl) ⟨_, rfl, ?_⟩
  -- path 9F
  exact ⟨hb, _, rfl, ⟨fun h => absurd h (by decide), fun h => by rw [any_end (by omega) hnone] at h; cases h⟩⟩

theorem ContF_r {L : List RD} {v : Value} {p : RD → Bool} {w : World} (hl : RdC w 0 w.heap.size 2 v L.length (L.flatMap cellsRd)) {g : Nat} {fs cs : List Value} (hokg : callOk Try.prog g = true) (hf : ∀ i, i < L.length → ∀ w1, Below w.heap.size w w1 → Ret Try.prog g (fs ++ [Value.agg #[.string (bs (L.getD i default).tab), (L.getD i default).la]] ++ cs).toArray w1 (fun v' w' => Below w1.heap.size w1 w' ∧ v' = .bool (p (L.getD i default)))) : Ret Try.prog 126 #[v, (Value.func (.func g) fs.toArray cs.toArray)] w (fun v' w' => Below w.heap.size w w' ∧ v' = .bool (L.any p)) := by
 have hb := Below.refl w.heap.size w
 refine enter (N := 9) Try.func126 rfl rfl (by simp) fun a0 hN hd hA => ?_
 have s0 : a0.tmps.getD 0 undef = v := hA 0 (by simp)
 have s1 : a0.tmps.getD 1 undef = (Value.func (.func g) fs.toArray cs.toArray) := hA 1 (by simp)
 clear hA
 refine seq_any fun K40 hK40 => ?_
 refine one_reg ?_
 refine op_assign rfl ?_
 refine reg_nil ?_
 refine hK40 _ _ ?_
 refine seq_any fun K41 hK41 => ?_
 refine one_reg ?_
 refine op_move (ev_base hN rfl s0) ?_
 refine op_move (ev_base hN rfl s1) ?_
 refine op_fn (vs := [v, (Value.func (.func g) fs.toArray cs.toArray)]) ok143 ⟨(ev_hit hN rfl), ⟨(ev_hit hN rfl), trivial⟩⟩ (IdxF_r hl hokg hf) ?_
 rintro _ w43 ⟨E44, n42, rfl, hnn42⟩
 have E44 := grown_of_below E44
 have z_w43 := E44.size
 have hl := hl.keep0 E44
 have hb := below_step0 hb E44 hb.size
 refine op_geq (ev_hit hN rfl) rfl (fun c8 => ?_) (fun c8 => ?_)
 · -- 8T
  refine op_assign (ev_hit hN rfl) ?_
  refine reg_nil ?_
  refine hK41 _ _ ?_
  refine wp_ret ?_
  refine ret1 rfl hd (ev_hit hN rfl) ⟨_, rfl, ?_⟩
  -- path 8T
  exact ⟨hb, congrArg Value.bool (idx_t (by assumption) c8)⟩
 · -- 8F
  refine op_assign (ev_hit hN rfl) ?_
  refine reg_nil ?_
  refine hK41 _ _ ?_
  refine wp_ret ?_
  refine ret1 rfl hd (ev_hit hN rfl) ⟨_, rfl, ?_⟩
  -- path 8F
  exact ⟨hb, congrArg Value.bool (idx_f (by assumption) c8)⟩

end Go.Proofs.Ytmhdbphpmgjpcaa

/- A map's keys, sorted: the library's contracts, laid at this program. -/
namespace Go.Proofs.Ytmhdbphpmgjpcaa
open Go.Gx Go.RowKit Go.Maps Go.Sort Go.Shelf Go.Proofs
def keysA_ren : Go.Shelf.Ren := ⟨fun | 7 => 120 | 10 => 138 | n => n, fun | 23 => 119 | 26 => 3 | 3 => 155 | 28 => 203 | 0 => 0 | 27 => 202 | 33 => 40 | 4 => 4 | n => n, fun | n => n⟩
theorem keysA : Go.Proofs.SlLaysZI.n7 Try.prog keysA_ren where
  mixed := by kernel_rfl
  f7 := ⟨Try.f120.name, by decide, Try.func120.trans (congrArg some (by kernel_rfl))⟩
  f10 := ⟨Try.f138.name, by decide, Try.func138.trans (congrArg some (by kernel_rfl))⟩
  t0 := Try.underlying0
  a0 := Try.isAgg0
  z0 := Try.sizeOf0
  v0 := Try.zeroValue0
  t4 := Try.underlying4
  a4 := Try.isAgg4
  z4 := Try.sizeOf4
  v4 := Try.zeroValue4
  t23 := Try.underlying119
  a23 := Try.isAgg119
  z23 := Try.sizeOf119
  v23 := Try.zeroValue119
  t26 := Try.underlying3
  a26 := Try.isAgg3
  z26 := Try.sizeOf3
  v26 := Try.zeroValue3
  t27 := Try.underlying202
  a27 := Try.isAgg202
  z27 := Try.sizeOf202
  v27 := Try.zeroValue202
  t28 := Try.underlying203
  a28 := Try.isAgg203
  z28 := Try.sizeOf203
  v28 := Try.zeroValue203
  t33 := Try.underlying40
  a33 := Try.isAgg40
  z33 := Try.sizeOf40
  v33 := Try.zeroValue40
def sortedA_ren : Go.Shelf.Ren := ⟨fun | 6 => 119 | 8 => 136 | 9 => 137 | 11 => 149 | 13 => 148 | 12 => 150 | 23 => 162 | 24 => 163 | 14 => 164 | 15 => 165 | 16 => 166 | 17 => 167 | 18 => 168 | 19 => 169 | 20 => 170 | 21 => 171 | 22 => 172 | 25 => 178 | 26 => 174 | 27 => 175 | 28 => 179 | 29 => 180 | 30 => 139 | 31 => 182 | n => n, fun | 26 => 3 | 28 => 203 | 24 => 35 | 0 => 0 | 3 => 3 | 37 => 184 | 48 => 236 | 50 => 61 | 4 => 4 | 40 => 229 | 39 => 228 | 45 => 38 | 5 => 5 | 9 => 9 | 51 => 244 | 55 => 248 | 57 => 252 | 58 => 253 | 33 => 40 | n => n, fun | n => n⟩
theorem sortedA : Go.Proofs.SlLaysZI.n6 Try.prog sortedA_ren where
  mixed := by kernel_rfl
  f6 := ⟨Try.f119.name, by decide, Try.func119.trans (congrArg some (by kernel_rfl))⟩
  f8 := ⟨Try.f136.name, by decide, Try.func136.trans (congrArg some (by kernel_rfl))⟩
  f11 := ⟨Try.f149.name, by decide, Try.func149.trans (congrArg some (by kernel_rfl))⟩
  t0 := Try.underlying0
  a0 := Try.isAgg0
  z0 := Try.sizeOf0
  v0 := Try.zeroValue0
  t24 := Try.underlying35
  a24 := Try.isAgg35
  z24 := Try.sizeOf35
  v24 := Try.zeroValue35
  t26 := Try.underlying3
  a26 := Try.isAgg3
  z26 := Try.sizeOf3
  v26 := Try.zeroValue3
  t28 := Try.underlying203
  a28 := Try.isAgg203
  z28 := Try.sizeOf203
  v28 := Try.zeroValue203
  i26 := by kernel_rfl
def sortA_ren : Go.Shelf.Ren := ⟨fun | 5 => 137 | 8 => 148 | 7 => 150 | 19 => 162 | 20 => 163 | 10 => 164 | 11 => 165 | 12 => 166 | 13 => 167 | 14 => 168 | 15 => 169 | 16 => 170 | 17 => 171 | 18 => 172 | 30 => 178 | 31 => 174 | 32 => 175 | 33 => 179 | 34 => 180 | 35 => 139 | 40 => 182 | n => n, fun | 23 => 35 | 25 => 3 | 3 => 3 | 32 => 184 | 22 => 35 | 0 => 0 | 44 => 236 | 46 => 61 | 4 => 4 | 36 => 229 | 35 => 228 | 41 => 38 | 5 => 5 | 9 => 9 | 53 => 244 | 57 => 248 | 63 => 252 | 64 => 253 | n => n, fun | n => n⟩
theorem sortA : Go.Proofs.SlLaysM.n5 Try.prog sortA_ren where
  mixed := by kernel_rfl
  f5 := ⟨Try.f137.name, by decide, Try.func137.trans (congrArg some (by kernel_rfl))⟩
  f7 := ⟨Try.f150.name, by decide, Try.func150.trans (congrArg some (by kernel_rfl))⟩
  f8 := Try.func148.trans (congrArg some (by kernel_rfl))
  f10 := ⟨Try.f164.name, by decide, Try.func164.trans (congrArg some (by kernel_rfl))⟩
  f11 := ⟨Try.f165.name, by decide, Try.func165.trans (congrArg some (by kernel_rfl))⟩
  f12 := ⟨Try.f166.name, by decide, Try.func166.trans (congrArg some (by kernel_rfl))⟩
  f13 := ⟨Try.f167.name, by decide, Try.func167.trans (congrArg some (by kernel_rfl))⟩
  f14 := ⟨Try.f168.name, by decide, Try.func168.trans (congrArg some (by kernel_rfl))⟩
  f15 := ⟨Try.f169.name, by decide, Try.func169.trans (congrArg some (by kernel_rfl))⟩
  f16 := ⟨Try.f170.name, by decide, Try.func170.trans (congrArg some (by kernel_rfl))⟩
  f17 := ⟨Try.f171.name, by decide, Try.func171.trans (congrArg some (by kernel_rfl))⟩
  f18 := ⟨Try.f172.name, by decide, Try.func172.trans (congrArg some (by kernel_rfl))⟩
  f19 := Try.func162.trans (congrArg some (by kernel_rfl))
  f20 := Try.func163.trans (congrArg some (by kernel_rfl))
  f30 := ⟨Try.f178.name, by decide, Try.func178.trans (congrArg some (by kernel_rfl))⟩
  f31 := Try.func174.trans (congrArg some (by kernel_rfl))
  f32 := Try.func175.trans (congrArg some (by kernel_rfl))
  f33 := ⟨Try.f179.name, by decide, Try.func179.trans (congrArg some (by kernel_rfl))⟩
  f34 := ⟨Try.f180.name, by decide, Try.func180.trans (congrArg some (by kernel_rfl))⟩
  f35 := ⟨Try.f139.name, by decide, Try.func139.trans (congrArg some (by kernel_rfl))⟩
  f40 := ⟨Try.f182.name, by decide, Try.func182.trans (congrArg some (by kernel_rfl))⟩
  t0 := Try.underlying0
  a0 := Try.isAgg0
  z0 := Try.sizeOf0
  v0 := Try.zeroValue0
  t3 := Try.underlying3
  a3 := Try.isAgg3
  z3 := Try.sizeOf3
  v3 := Try.zeroValue3
  t4 := Try.underlying4
  a4 := Try.isAgg4
  z4 := Try.sizeOf4
  v4 := Try.zeroValue4
  t5 := Try.underlying5
  a5 := Try.isAgg5
  z5 := Try.sizeOf5
  v5 := Try.zeroValue5
  t9 := Try.underlying9
  a9 := Try.isAgg9
  z9 := Try.sizeOf9
  v9 := Try.zeroValue9
  t22 := Try.underlying35
  a22 := Try.isAgg35
  z22 := Try.sizeOf35
  v22 := Try.zeroValue35
  t23 := Try.underlying35
  a23 := Try.isAgg35
  z23 := Try.sizeOf35
  v23 := Try.zeroValue35
  t25 := Try.underlying3
  a25 := Try.isAgg3
  z25 := Try.sizeOf3
  v25 := Try.zeroValue3
  t32 := Try.underlying184
  a32 := Try.isAgg184
  z32 := Try.sizeOf184
  v32 := Try.zeroValue184
  t35 := Try.underlying228
  a35 := Try.isAgg228
  z35 := Try.sizeOf228
  v35 := Try.zeroValue228
  t36 := Try.underlying229
  a36 := Try.isAgg229
  z36 := Try.sizeOf229
  v36 := Try.zeroValue229
  t41 := Try.underlying38
  a41 := Try.isAgg38
  z41 := Try.sizeOf38
  v41 := Try.zeroValue38
  t44 := Try.underlying236
  a44 := Try.isAgg236
  z44 := Try.sizeOf236
  v44 := Try.zeroValue236
  t46 := Try.underlying61
  a46 := Try.isAgg61
  z46 := Try.sizeOf61
  v46 := Try.zeroValue61
  t53 := Try.underlying244
  a53 := Try.isAgg244
  z53 := Try.sizeOf244
  v53 := Try.zeroValue244
  t57 := Try.underlying248
  a57 := Try.isAgg248
  z57 := Try.sizeOf248
  v57 := Try.zeroValue248
  t63 := Try.underlying252
  a63 := Try.isAgg252
  z63 := Try.sizeOf252
  v63 := Try.zeroValue252
  t64 := Try.underlying253
  a64 := Try.isAgg253
  z64 := Try.sizeOf253
  v64 := Try.zeroValue253

theorem sortsA (m : Nat) : AnyZI.SortsIn Try.prog sortedA_ren Fence.wide m :=
  ⟨fun blk off cap ss W hH hblk hsz => callsIn_wide.2 (AnyM.slices_Sort_int sortA blk off cap ss W hH hblk hsz),
   fun p cap W => callsIn_wide.2 (AnyM.slices_Sort_int_none sortA p cap W)⟩
theorem own_of_row {w : World} {base e sz n : Nat} {v : Value} {cs : List Value} (h : w.ownsRow base e sz v n cs) : Own w base e sz v n cs := by
  obtain ⟨hl, h⟩ := h
  refine ⟨hl, ?_⟩
  rcases h with h | ⟨g, cap, cur, rfl, hb, hg, h1, h2, h3, h4⟩
  · exact .inl h
  · exact .inr ⟨g, 0, cap, cur, (0, 0), rfl, hb, hg, fun j _ hj => by omega, h1, h2, by omega, by simpa using h4⟩
def anyR (_ : Value) : Option (DataW Nat × List MemPlace) := some (.lit (.bool true), [])
def keysUp (es : List (Int × Nat)) : List Int := (es.map Prod.fst).mergeSort (fun x y => decide (x ≤ y))
theorem map_own {w : World} {m : Nat} {es : List (Int × Nat)} {pv : Nat → Value} (hM : MapC (Value.int .i64) pv w m es) (hk : ∀ p ∈ es, (Lit.int .i64 p.1).wf = true) (hn : es.length ≤ 1000000) :
    ∃ D0 : DataW Nat, w.ownsMap Try.prog 3 anyR m es.length D0 ∧ Maps.size D0 = es.length ∧ (intKeys D0).Perm (es.map Prod.fst) := by
  obtain ⟨arr, clock, hb, hs, he⟩ := hM
  have hlen : arr.size = es.length := by have := congrArg List.length he; simpa using this
  have hkey : ∀ x ∈ arr.toList, ∃ p ∈ es, x.key = Value.int .i64 p.1 := by
    intro x hx
    have h1 := congrArg (List.map Prod.fst) he
    simp only [List.map_map] at h1
    have h2 : x.key ∈ es.map ((Prod.fst : Value × Value → Value) ∘ fun p => (Value.int .i64 p.1, pv p.2)) := by
      rw [← h1]; exact List.mem_map.2 ⟨x, hx, rfl⟩
    obtain ⟨p, hp, he2⟩ := List.mem_map.1 h2
    exact ⟨p, hp, he2.symm⟩
  have hrd : ∀ x ∈ arr.toList, ∀ a : Int, x.key = Value.int .i64 a → WideElems.rd Try.prog 3 anyR x = some (.int .i64 a, .lit (.bool true)) := by
    intro x hx a ha
    obtain ⟨p, hp, hp2⟩ := hkey x hx
    have : a = p.1 := by rw [ha] at hp2; injection hp2
    subst this
    have h3 : keyOf Try.prog 3 x.key = some (.int .i64 p.1) := by rw [ha]; exact keyOf_int_mk Try.underlying3 (hk p hp)
    unfold WideElems.rd anyR
    rw [h3]; rfl
  have F : WideElems.Fit Try.prog 3 anyR arr clock := ⟨by rw [hlen]; unfold maxLen; omega, hs, fun x hx => by
    obtain ⟨p, hp, hp2⟩ := hkey x hx
    exact ⟨_, hrd x hx _ hp2⟩⟩
  refine ⟨_, ⟨arr, clock, hb, F, by omega, rfl⟩, ?_, ?_⟩
  · rw [Maps.size_eq, length_sorted]; simp [hlen]
  · show (((arr.toList.map (WideElems.rg Try.prog 3 anyR)).foldr DataW.insert []).map fun (p : Lit × DataW Nat) => Go.intOf p.1).Perm _
    refine ((Go.WideShapes.sorted_perm _).map _).trans ?_
    rw [List.map_map]
    have : arr.toList.map ((fun p : Lit × DataW Nat => Go.intOf p.1) ∘ WideElems.rg Try.prog 3 anyR) = es.map Prod.fst := by
      have h1 := congrArg (List.map Prod.fst) he
      simp only [List.map_map] at h1
      have h4 : (arr.toList.map fun e => e.key) = (es.map Prod.fst).map (Value.int .i64) := by rw [List.map_map]; exact h1
      have h5 : arr.toList.map ((fun p : Lit × DataW Nat => Go.intOf p.1) ∘ WideElems.rg Try.prog 3 anyR) = arr.toList.map fun e => match e.key with | .int _ a => a | _ => 0 := by
        apply List.map_congr_left
        intro x hx
        obtain ⟨p, hp, hp2⟩ := hkey x hx
        simp only [Function.comp]
        rw [WideElems.rg_of (hrd x hx _ hp2), hp2]; rfl
      rw [h5]
      have h6 : (arr.toList.map fun e => match e.key with | .int _ a => a | _ => 0) = (arr.toList.map fun e => e.key).map fun v => match v with | .int _ a => a | _ => 0 := by rw [List.map_map]; rfl
      rw [h6, h4, List.map_map]
      apply List.ext_getElem?
      intro i
      simp only [List.getElem?_map]
      cases (es[i]?) <;> rfl
    rw [this]
/-- slices.Sorted of what maps.Keys handed back. -/
theorem sortedKeys_ret {w : World} {m b t : Nat} {es : List (Int × Nat)} {pv : Nat → Value} (hM : MapC (Value.int .i64) pv w m es) (hk : ∀ p ∈ es, (Lit.int .i64 p.1).wf = true) (hn : es.length ≤ 1000000) (hB : Bx w b t [.map (some m)]) :
    Ret Try.prog 119 #[.func (.func 138) #[] #[ptr b 0]] w (fun v' w' => Below w.heap.size w w' ∧ Own w' w.heap.size 3 1 v' (keysUp es).length ((keysUp es).map (Value.int .i64))) := by
  obtain ⟨D0, hown, hsz, hp⟩ := map_own hM hk hn
  refine (callsIn_wide (n := 5)).1 ?_
  have hseq : SeqGives Fence.wide 2 Try.prog 138 #[.pointer (some ⟨b, 0, none⟩)] encZ (fun ss => ss.Perm (intKeys D0)) (Maps.size D0) w :=
    AnyZI.keys_gives (ρ := keysA_ren) { keysA with } Fence.wide _ trivial rfl (by omega) b m es.length D0 _ hB.lt (hB.cell rfl) hown
  have cS := AnyZI.sorted_in sortedA Fence.wide 5 trivial trivial trivial trivial rfl (by omega) (sortsA _) (enters_of Try.func137 (by kernel_rfl) rfl) 138 #[.pointer (some ⟨b, 0, none⟩)] trivial (enters_of Try.func138 (by kernel_rfl) rfl) _ _ (by rw [hsz]; unfold maxLen; omega) (by rw [hsz]; omega) _ hseq
  change CallsIn _ _ Try.prog 119 _ _ _ at cS
  refine cS.mono ?_
  rintro e w' ⟨v, ss, rfl, hS, hrow, hnil, hb⟩
  refine ⟨v, rfl, hb, ?_⟩
  have e1 : ss.mergeSort (fun x y => decide (x ≤ y)) = keysUp es := mergeSort_of_perm_i (hS.trans hp)
  have e2 : ss.length = (keysUp es).length := by rw [← e1, List.length_mergeSort]
  have := own_of_row hrow
  rw [e1, e2] at this
  exact this
end Go.Proofs.Ytmhdbphpmgjpcaa

/- Locks, plainly: who stands in whose way, what is added; one transaction's parts, and what there is behind its turn. -/
namespace Go.Proofs.Ytmhdbphpmgjpcaa
open Go.Gx
theorem takeT {α : Type} {l : List α} {i : Nat} {d : α} (h : i < l.length) : l.take (i + 1) = l.take i ++ [l.getD i d] := by simp [List.getD_eq_getElem?_getD, h]
theorem eq_u16 {a b : UInt16} (h : ((a.toNat : Nat) : Int) = ((b.toNat : Nat) : Int)) : a = b := UInt16.toNat_inj.1 (by omega)
theorem sub_of_hm {v v' : Value} {m n : Nat} (hm : v'.ownBlock = v.ownBlock ∨ ∀ k, v'.ownBlock = some k → n ≤ k) (hle : m ≤ n) : ∀ y, Bl v' y → Bl v y ∨ m ≤ y := fun y hy => hm.elim (fun e => .inl (e.symm.trans hy)) (fun h => .inr (Nat.le_trans hle (h y hy)))
theorem filtT {α : Type} {l : List α} {i : Nat} {d : α} {p : α → Bool} (h : i < l.length) (hp : p (l.getD i d) = true) : (l.take (i + 1)).filter p = (l.take i).filter p ++ [l.getD i d] := by
  rw [takeT (d := d) h, List.filter_append]
  simp only [List.filter_cons, hp, if_true, List.filter_nil]
theorem filtF {α : Type} {l : List α} {i : Nat} {d : α} {p : α → Bool} (h : i < l.length) (hp : p (l.getD i d) = false) : (l.take (i + 1)).filter p = (l.take i).filter p := by
  rw [takeT (d := d) h, List.filter_append]
  simp only [List.filter_cons, hp, List.filter_nil, Bool.false_eq_true, if_false, List.append_nil]
theorem filt_le {α : Type} {l : List α} {i : Nat} {p : α → Bool} (h : i ≤ l.length) : ((l.take i).filter p).length ≤ i := Nat.le_trans (List.length_filter_le _ _) (by rw [List.length_take]; omega)
def writB (W : List (List UInt8)) (x : List UInt8) : Bool := W.any fun y => decide (y = x)
def covB (R : List (List UInt8 × List UInt16)) (x : List UInt8) (l : List UInt16) : Bool := R.any fun r => decide (r.1 = x) && flowsL l r.2
theorem covB_map {D : List RD} {x : List UInt8} {l : List UInt16} : (D.any fun r => decide (r.tab = x) && flowsL l r.lab) = covB (D.map rOf) x l := by
  unfold covB; rw [List.any_map]; rfl
def standB (t : TX) (reads : List (List UInt8)) (x : List UInt8) (l : List UInt16) : Bool := reads.any (writB t.writes) || (decide (x ≠ []) && (writB t.writes x || covB t.reads x l))
def addR (R : List (List UInt8 × List UInt16)) (a : List UInt8 × List UInt16) : List (List UInt8 × List UInt16) := if (R.any fun r => decide (a.1 = r.1) && decide (a.2 = r.2)) = true then R else R ++ [a]
def addW (W : List (List UInt8)) (x : List UInt8) : List (List UInt8) := if (W.any fun y => decide (x = y)) = true then W else W ++ [x]
def sortK (M : TM) : List Int := (M.map Prod.fst).mergeSort (fun x y => decide (x ≤ y))
def txAt (M : TM) (x : Int) : TX := (mget M x).getD default
def othersL (M : TM) (n : Int) (q : List UInt16 → Bool) : List Int := (sortK M).filter fun i => decide (i ≠ n) && q (txAt M i).label
/-- What an asking comes to. -/
def stB (M : TM) (T : TX) (Rs : List (List UInt8)) (x : List UInt8) (i : Int) : Bool := standB (txAt M i) Rs x T.label
def dieB (M : TM) (T : TX) (Rs : List (List UInt8)) (x : List UInt8) (i : Int) : Bool := stB M T Rs x i && decide ((txAt M i).stamp ≤ T.stamp)
def sameQ (T : TX) (l : List UInt16) : Bool := decide (l = T.label)
def outW (p : Int → Bool) (L : List Int) : Int := if L.any p = true then 2 else 1
def askO (M : TM) (n : Int) (T : TX) (Rs : List (List UInt8)) (x : List UInt8) : Int := if (othersL M n (sameQ T)).any (dieB M T Rs x) = true then 3 else outW (stB M T Rs x) (othersL M n (sameQ T))
def gotR (T : TX) (Rs : List (List UInt8)) : List (List UInt8 × List UInt16) := Rs.foldl (fun R s => addR R (s, T.label)) T.reads
def gotW (T : TX) (x : List UInt8) : List (List UInt8) := if x = [] then T.writes else addW T.writes x
def askT (T : TX) (Rs : List (List UInt8)) (x : List UInt8) (o : Int) : TX := if o = 1 then { T with reads := gotR T Rs, writes := gotW T x } else T
theorem outW_f {p : Int → Bool} {L : List Int} {i : Nat} (h : i < L.length) (hp : p (L.getD i 0) = false) : outW p (L.take (i + 1)) = outW p (L.take i) := by
  unfold outW; rw [takeT (d := 0) h, List.any_append, List.any_cons, hp]; simp
theorem outW_t {p : Int → Bool} {L : List Int} {i : Nat} (h : i < L.length) (hp : p (L.getD i 0) = true) : outW p (L.take (i + 1)) = 2 := by
  unfold outW; rw [takeT (d := 0) h, List.any_append, List.any_cons, hp]; simp
theorem gotR_step {T : TX} {Rs : List (List UInt8)} {i : Nat} (h : i < Rs.length) : gotR T (Rs.take (i + 1)) = addR (gotR T (Rs.take i)) (Rs.getD i [], T.label) := by
  unfold gotR; rw [takeT (d := []) h, List.foldl_append]; rfl
theorem addR_len {R : List (List UInt8 × List UInt16)} {a : List UInt8 × List UInt16} : (addR R a).length ≤ R.length + 1 := by unfold addR; split <;> simp
theorem addR_ok {R : List (List UInt8 × List UInt16)} {a : List UInt8 × List UInt16} (h : ∀ r ∈ R, r.2.length ≤ 8) (ha : a.2.length ≤ 8) : ∀ r ∈ addR R a, r.2.length ≤ 8 := fun r hr => by
  unfold addR at hr
  split at hr
  · exact h r hr
  · rcases List.mem_append.1 hr with q | q
    · exact h r q
    · obtain rfl : r = a := by simpa using q
      exact ha
theorem gotR_ok {T : TX} (hl : T.label.length ≤ 8) : ∀ (Rs : List (List UInt8)) (T' : TX), T'.label = T.label → (∀ r ∈ T'.reads, r.2.length ≤ 8) → (∀ r ∈ gotR T' Rs, r.2.length ≤ 8) ∧ (gotR T' Rs).length ≤ T'.reads.length + Rs.length
  | [], _, _, h => ⟨h, by simp [gotR]⟩
  | a :: Rs, T', he, h => by
    have h2 := gotR_ok hl Rs { T' with reads := addR T'.reads (a, T'.label) } he (addR_ok h (by rw [he]; exact hl))
    have h3 : (addR T'.reads (a, T'.label)).length ≤ T'.reads.length + 1 := addR_len
    refine ⟨h2.1, Nat.le_trans h2.2 ?_⟩
    show (addR T'.reads (a, T'.label)).length + Rs.length ≤ T'.reads.length + (Rs.length + 1)
    omega
def TOk (t : TX) : Prop := t.label.length ≤ 8 ∧ ∀ r ∈ t.reads, r.2.length ≤ 8
def MOk (M : TM) : Prop := M.length ≤ 1000 ∧ ∀ a ∈ M, (Lit.int .i64 a.1).wf = true ∧ TOk a.2
/-- A transaction as an object. -/
def TxR (w : World) (base p : Nat) (t : TX) (F : Nat → Prop) : Prop := ∃ c : TC, c.p = p ∧ TxAt w base t c ∧ ∀ x, F x ↔ PartT c x
section
variable {w w' : World} {base k m b tt e sz n p : Nat} {M : TM} {C : List TC} {F F0 G FT : Nat → Prop} {cs : List Value} {v mv la rv wv : Value} {T T' : TX} {c c' : TC} {D : List RD} {x i : Int}
theorem TxR.lt (h : TxR w base p T F) : ∀ x, F x → base ≤ x ∧ x < w.heap.size := by
  obtain ⟨c, _, h, hF⟩ := h
  exact fun x hx => h.lt x ((hF x).1 hx)
theorem TxR.keepG (h : TxR w base p T F) (E : Gr w w' G) (hd : Dj F G) : TxR w' base p T F := by
  obtain ⟨c, hp, h, hF⟩ := h
  exact ⟨c, hp, h.keepG E fun x hx => hd x ((hF x).2 hx), hF⟩
theorem TxR.notBx (h : TxR w base p T F) (B : Bx w b tt cs) (h1 : tt ≠ 164) (h2 : tt ≠ 46) (h3 : tt ≠ 169) (h4 : tt ≠ 9) : ¬ F b := by
  obtain ⟨c, hp, h, hF⟩ := h
  exact fun hf => h.notBx B h1 h2 h3 h4 ((hF b).1 hf)
theorem TxR.notOwn {base2 : Nat} (h : TxR w base p T F) (O : Own w base2 e sz v n cs) (h1 : e ≠ 164) (h2 : e ≠ 46) (h3 : e ≠ 169) (h4 : e ≠ 9) : Dj (Bl v) F := by
  obtain ⟨c, hp, h, hF⟩ := h
  exact fun x hx hf => h.notOwn O h1 h2 h3 h4 x hx ((hF x).1 hf)
theorem TxR.notMap {K V : Type} {kv : K → Value} {vv : V → Value} {es : List (K × V)} (h : TxR w base p T F) (Mp : MapC kv vv w m es) : ¬ F m := by
  obtain ⟨c, hp, h, hF⟩ := h
  exact fun hf => h.notMap Mp ((hF m).1 hf)
/-- A transaction's parts. -/
theorem TxR.parts (h : TxR w base p T F) : ∃ (la rv wv : Value) (D : List RD), base ≤ p ∧ Bx w p 164 [la, .int .u64 T.stamp, rv, wv, .bool T.doomed] ∧ Own w base 46 1 la T.label.length (T.label.map u16v) ∧ Own w base 169 2 rv D.length (D.flatMap cellsRd) ∧
    (∀ x9 ∈ D.map rdL, Own w base 46 1 x9.1 x9.2.length (x9.2.map u16v)) ∧ Own w base 9 1 wv T.writes.length (T.writes.map sv) ∧ D.map rOf = T.reads ∧ (∀ x, F x ↔ x = p ∨ Bl la x ∨ Bl rv x ∨ Bl wv x ∨ ∃ r ∈ D, Bl r.la x) := by
  obtain ⟨⟨q, la, rv, wv, D⟩, rfl, ⟨h0, h1, h2, h3, h4, h5, h6⟩, hF⟩ := h
  exact ⟨la, rv, wv, D, h0, h1, h2, h3, h4, h5, h6, hF⟩
theorem TxR.mk' (h0 : base ≤ p) (h1 : Bx w p 164 [la, .int .u64 T.stamp, rv, wv, .bool T.doomed]) (h2 : Own w base 46 1 la T.label.length (T.label.map u16v)) (h3 : Own w base 169 2 rv D.length (D.flatMap cellsRd))
    (h4 : ∀ x9 ∈ D.map rdL, Own w base 46 1 x9.1 x9.2.length (x9.2.map u16v)) (h5 : Own w base 9 1 wv T.writes.length (T.writes.map sv)) (h6 : D.map rOf = T.reads) : TxR w base p T (fun x => x = p ∨ Bl la x ∨ Bl rv x ∨ Bl wv x ∨ ∃ r ∈ D, Bl r.la x) :=
  ⟨⟨p, la, rv, wv, D⟩, rfl, ⟨h0, h1, h2, h3, h4, h5, h6⟩, fun _ => Iff.rfl⟩
theorem TOk.rd (h : TOk T) (hD : D.map rOf = T.reads) : ∀ r ∈ D, r.lab.length ≤ 8 := fun r hr => h.2 (rOf r) (by rw [← hD]; exact List.mem_map.2 ⟨r, hr, rfl⟩)
/-- The transaction of a key. -/
theorem LkAll.key (h : LkAll w base M C F) (hx : mget M x = some T) : ∃ (j p : Nat) (la rv wv : Value) (D : List RD), j < M.length ∧ mlook M x = some (j, T) ∧ M.getD j default = (x, T) ∧ C.getD j default = ⟨p, la, rv, wv, D⟩ ∧ mget (esOf M C) x = some p ∧ base ≤ p ∧
    Bx w p 164 [la, .int .u64 T.stamp, rv, wv, .bool T.doomed] ∧ Own w base 46 1 la T.label.length (T.label.map u16v) ∧ Own w base 169 2 rv D.length (D.flatMap cellsRd) ∧ (∀ x9 ∈ D.map rdL, Own w base 46 1 x9.1 x9.2.length (x9.2.map u16v)) ∧ Own w base 9 1 wv T.writes.length (T.writes.map sv) ∧ D.map rOf = T.reads := by
  obtain ⟨h1, h2, h3, h4⟩ := h
  unfold mget at hx
  obtain ⟨⟨j, t⟩, hq, rfl⟩ := Option.map_eq_some_iff.1 hx
  have hj := mlook_some hq
  obtain ⟨hjl, hjv⟩ := List.getElem?_eq_some_iff.1 hj
  have hM : M.getD j default = (x, t) := by simp [List.getD_eq_getElem?_getD, hj]
  have hT := h2 j hjl
  obtain ⟨⟨p, la, rv, wv, D⟩, hC⟩ : ∃ c, C.getD j default = c := ⟨_, rfl⟩
  rw [hC, hM] at hT
  obtain ⟨a0, a1, a2, a3, a4, a5, a6⟩ := hT
  refine ⟨j, p, la, rv, wv, D, hjl, hq, hM, hC, ?_, a0, a1, a2, a3, a4, a5, a6⟩
  unfold mget
  rw [esOf_look h1, hq]
  simp only [Option.map_some]
  rw [hC]
theorem mget_key {es : List (Int × TX)} (h : x ∈ es.map Prod.fst) : ∃ T, mget es x = some T := by
  cases hq : mget es x with
  | none => exact absurd h (mget_none.1 hq)
  | some T => exact ⟨T, rfl⟩
theorem keysUp_eq (h : C.length = M.length) : keysUp (esOf M C) = sortK M := by unfold keysUp sortK; rw [esOf_keys h]
theorem es_wf (h : C.length = M.length) (hM : MOk M) : ∀ a ∈ esOf M C, (Lit.int .i64 a.1).wf = true := fun a ha => by
  have h1 : a.1 ∈ (esOf M C).map Prod.fst := List.mem_map.2 ⟨a, ha, rfl⟩
  rw [esOf_keys h] at h1
  obtain ⟨b, hb, he⟩ := List.mem_map.1 h1
  rw [← he]; exact (hM.2 b hb).1
theorem sortK_mem : x ∈ sortK M ↔ x ∈ M.map Prod.fst := by unfold sortK; exact List.mem_mergeSort
theorem sortK_len : (sortK M).length = M.length := by unfold sortK; rw [List.length_mergeSort, List.length_map]
theorem others_mem {n : Int} {q : List UInt16 → Bool} (h : x ∈ othersL M n q) : x ∈ M.map Prod.fst ∧ x ≠ n ∧ q (txAt M x).label = true := by
  unfold othersL at h
  rw [List.mem_filter, Bool.and_eq_true, decide_eq_true_eq, sortK_mem] at h
  exact h
theorem others_len {n : Int} {q : List UInt16 → Bool} : (othersL M n q).length ≤ M.length := by
  unfold othersL; exact Nat.le_trans (List.length_filter_le _ _) (by rw [sortK_len]; exact Nat.le_refl _)
/-- One transaction's parts, and what there is behind its turn. -/
theorem LocksR.hit {nn : Int} (h : LocksR w base k M F) (hg : mget M nn = some T) : ∃ m C F0 p FT, Bx w k 121 [.map (some m)] ∧ MapC (Value.int .i64) pv w m (esOf M C) ∧ LkAll w base M C F0 ∧ mget (esOf M C) nn = some p ∧ TxR w base p T FT ∧
    (∀ x, FT x → F x) ∧ (∀ w' T' FT', Gr w w' FT → TxR w' base p T' FT' → NewF w.heap.size FT FT' → Gr w w' F ∧ ∃ F2, LocksR w' base k (mput M nn T') F2 ∧ NewF w.heap.size F F2) := by
  obtain ⟨mv, C, F0, hk, hx, hM, hA, hF⟩ := h
  obtain ⟨j, p, la, rv, wv, D, hj, hl, hMj, hCj, hes, b0, b1, b2, b3, b4, b5, b6⟩ := LkAll.key hA hg
  rcases hM with ⟨rfl, he⟩ | ⟨m, rfl, hm, hM⟩
  · rw [he] at hes; cases hes
  · have hPC : PartT (C.getD j default) = PartT ⟨p, la, rv, wv, D⟩ := by rw [hCj]
    have hT0 : TxAt w base T ⟨p, la, rv, wv, D⟩ := ⟨b0, b1, b2, b3, b4, b5, b6⟩
    have hin : ∀ x, PartT ⟨p, la, rv, wv, D⟩ x → F x := fun x hx => (hF x).2 (.inr (.inr ((hA.2.2.2 x).2 ⟨j, hj, by rw [hCj]; exact hx⟩)))
    refine ⟨m, C, F0, p, PartT ⟨p, la, rv, wv, D⟩, hx, hM, hA, hes, ⟨_, rfl, hT0, fun _ => Iff.rfl⟩, hin, fun w' T' FT' E hT' hN => ?_⟩
    obtain ⟨c', hp', hT', hF'⟩ := hT'
    have hN' : ∀ x, PartT c' x → PartT (C.getD j default) x ∨ w.heap.size ≤ x := fun x hx => by rw [hPC]; exact hN x ((hF' x).2 hx)
    obtain ⟨E2, F2, hA2, hN2⟩ := hA.turn hj (n := nn) (by rw [hPC]; exact E) hT' hN'
    have hput : mput M nn T' = M.set j (nn, T') := by unfold mput; rw [hl]
    refine ⟨E2.mono fun x _ hx => (hF x).2 (.inr (.inr hx)), _, ⟨.map (some m), C.set j c', F2, hk, hx.keepG E (hT0.notBx hx (by decide) (by decide) (by decide) (by decide)), .inr ⟨m, rfl, hm, ?_⟩, by rw [hput]; exact hA2, fun x => Iff.rfl⟩, fun x hx => ?_⟩
    · rw [hput, esOf_set hA.1 (by rw [hp', hCj]) (fun _ => by rw [hMj])]
      exact hM.keepG E (hT0.notMap hM)
    · rcases hx with rfl | hx | hx
      · exact .inl ((hF x).2 (.inl rfl))
      · exact .inl ((hF x).2 (.inr (.inl hx)))
      · exact (hN2 x hx).imp (fun q => (hF x).2 (.inr (.inr q))) id
end
end Go.Proofs.Ytmhdbphpmgjpcaa

/- Walks, written by a program: what each function of the translation hands back. -/
namespace Go.Proofs.Ytmhdbphpmgjpcaa
open Go.Gx Go.RowKit
attribute [local irreducible] wpList wpStill Code.wp Calls
open Go.Sort (bitsLen)
theorem indexW_ret (l : Lb) (x : UInt16) (v : Value) (w : World) (hz : l.length ≤ 1000000000000) (hl : RdC w 0 w.heap.size 1 v l.length (l.map u16v)) : Ret Try.prog 152 #[v, (Value.int .u16 (x.toNat : Int))] w (fun v' w' => (∃ z : Int, v' = .int .i64 z ∧ decide (0 ≤ z) = inL x l) ∧ w' = w) := by
 have hb := Below.refl w.heap.size w
 refine enter (N := 19) Try.func152 rfl rfl (by simp) fun a0 hN hd hA => ?_
 have s0 : a0.tmps.getD 0 undef = v := hA 0 (by simp)
 have s1 : a0.tmps.getD 1 undef = (Value.int .u16 (x.toNat : Int)) := hA 1 (by simp)
 clear hA
 refine seq_any fun K1 hK1 => ?_
 refine one_reg ?_
 refine op_assign rfl ?_
 refine reg_nil ?_
 refine hK1 _ _ ?_
 refine seq_any fun K2 hK2 => ?_
 refine seq_any fun K3 hK3 => ?_
 refine one_reg ?_
 refine op_move (ev_base hN rfl s0) ?_
 refine op_len_rd Try.underlying54 (ev_hit hN rfl) hl ?_
 refine op_move rfl ?_
 refine reg_nil ?_
 refine hK3 _ _ ?_
 refine wp_block ?_
 refine loop_m (fun mz_ az_ w' => ∃ (i : Nat), mz_ = l.length - i ∧ (az_.tmps.getD 0 undef = v) ∧ (az_.tmps.getD 1 undef = (Value.int .u16 (x.toNat : Int))) ∧ (az_.tmps.getD 7 undef = (Value.int .i64 ((l.length : Nat) : Int))) ∧ (az_.tmps.getD 8 undef = (Value.int .i64 ((i : Nat) : Int))) ∧ (i ≤ l.length) ∧ (∀ j9, j9 < i → l.getD j9 0 ≠ x) ∧ w = w') _ hN hd ⟨0, rfl, (sl_base hN rfl s0), (sl_base hN rfl s1), (sl_hit hN rfl), (sl_hit hN rfl).trans (congrArg (Value.int .i64) (by omega)), Nat.zero_le _, (fun j9 h9 => absurd h9 (Nat.not_lt_zero _)), rfl⟩ ?_
 rintro _ a4 _ hN4 hd4 ⟨i, rfl, s4_0, s4_1, s4_7, s4_8, hi, hno, rfl⟩
 refine seq_any fun K5 hK5 => ?_
 refine one_reg ?_
 refine op_lss (ev_base hN4 rfl s4_8) (ev_base hN4 rfl s4_7) (fun c9 => ?_) (fun c9 => ?_)
 · -- 9T
  refine reg_nil ?_
  refine hK5 _ _ ?_
  refine seq_any fun K6 hK6 => ?_
  refine wp_cond_true (ev_hit hN4 rfl) ?_
  refine wp_skip ?_
  refine hK6 _ _ ?_
  refine seq_any fun K7 hK7 => ?_
  refine wp_block ?_
  refine seq_any fun K8 hK8 => ?_
  refine one_reg ?_
  refine op_move (ev_base hN4 rfl s4_8) ?_
  refine op_assign (ev_hit hN4 rfl) ?_
  refine reg_nil ?_
  refine hK8 _ _ ?_
  refine seq_any fun K9 hK9 => ?_
  refine one_reg ?_
  refine op_move (ev_base hN4 rfl s4_1) ?_
  refine op_move (ev_base hN4 rfl s4_0) ?_
  refine op_move (ev_hit hN4 rfl) ?_
  refine op_index_rd slt54 (ev_hit hN4 rfl) hl (ev_hit hN4 rfl) (by omega) (by omega) ?_
  intro b10 o11 h0b10 h1b10 hc12
  refine op_load1 (v := (Value.int .u16 ((l.getD i 0).toNat : Int))) one46 (ev_hit hN4 rfl) (by have := hc12 0 (Value.int .u16 ((l.getD i 0).toNat : Int)) (by decide) (el_u16 (i := i) (by omega) (by omega)); simpa using this) ?_
  refine op_eql (ev_hit hN4 rfl) (ev_hit hN4 rfl) (fun c16 => ?_) (fun c16 => ?_)
  · -- 16T
   refine reg_nil ?_
   refine hK9 _ _ ?_
   refine wp_cond_true (ev_hit hN4 rfl) ?_
   refine seq_any fun K13 hK13 => ?_
   refine one_reg ?_
   refine op_move (ev_hit hN4 rfl) ?_
   refine op_assign (ev_hit hN4 rfl) ?_
   refine reg_nil ?_
   refine hK13 _ _ ?_
   refine wp_ret (blk_ret (then_ret (then_ret (blk_ret (then_ret ( ?_))))))
   refine ret1 rfl hd4 (ev_hit hN4 rfl) ⟨_, rfl, ?_⟩
   -- path 9T 16T
   exact ⟨⟨_, rfl, by rw [in_t (i := i) (by omega) (u16_eq c16).symm]; exact decide_eq_true (by omega)⟩, rfl⟩
  · -- 16F
   refine reg_nil ?_
   refine hK9 _ _ ?_
   refine wp_cond_false (ev_hit hN4 rfl) ?_
   refine wp_skip ?_
   refine hK7 _ _ ?_
   refine one_reg ?_
   refine op_add (ev_base hN4 rfl s4_8) rfl (add64 (by omega)) ?_
   refine op_move (ev_hit hN4 rfl) ?_
   refine reg_nil ?_
   -- round 9T 16F
   exact loop_next _ hN4 hd4 ⟨i + 1, rfl, (sl_base hN4 rfl s4_0), (sl_base hN4 rfl s4_1), (sl_base hN4 rfl s4_7), (sl_hit hN4 rfl).trans (congrArg (Value.int .i64) (by omega)), (by omega), (no_step hno (fun e9 => c16 (by rw [e9]))), rfl⟩ (by omega)
 · -- 9F
  refine reg_nil ?_
  refine hK5 _ _ ?_
  refine seq_any fun K14 hK14 => ?_
  refine wp_cond_false (ev_hit hN4 rfl) ?_
  refine wp_exit (then_exit (then_exit (blk_hit ?_)))
  refine hK2 _ _ ?_
  refine seq_any fun K15 hK15 => ?_
  refine one_reg ?_
  refine op_assign rfl ?_
  refine reg_nil ?_
  refine hK15 _ _ ?_
  refine wp_ret ?_
  refine ret1 rfl hd4 (ev_hit hN4 rfl) ⟨_, rfl, ?_⟩
  -- path 9F
  exact ⟨⟨_, rfl, by rw [in_f (i := i) (by omega) hno]; rfl⟩, rfl⟩

theorem contW_ret (l : Lb) (x : UInt16) (v : Value) (w : World) (hz : l.length ≤ 1000000000000) (hl : RdC w 0 w.heap.size 1 v l.length (l.map u16v)) : Ret Try.prog 146 #[v, (Value.int .u16 (x.toNat : Int))] w (fun v' w' => v' = .bool (inL x l) ∧ w' = w) := by
 have hb := Below.refl w.heap.size w
 refine enter (N := 9) Try.func146 rfl rfl (by simp) fun a0 hN hd hA => ?_
 have s0 : a0.tmps.getD 0 undef = v := hA 0 (by simp)
 have s1 : a0.tmps.getD 1 undef = (Value.int .u16 (x.toNat : Int)) := hA 1 (by simp)
 clear hA
 refine seq_any fun K16 hK16 => ?_
 refine one_reg ?_
 refine op_assign rfl ?_
 refine reg_nil ?_
 refine hK16 _ _ ?_
 refine seq_any fun K17 hK17 => ?_
 refine one_reg ?_
 refine op_move (ev_base hN rfl s0) ?_
 refine op_move (ev_base hN rfl s1) ?_
 refine op_fn (vs := [v, (Value.int .u16 (x.toNat : Int))]) ok152 ⟨(ev_hit hN rfl), ⟨(ev_hit hN rfl), trivial⟩⟩ (Ret.flip (indexW_ret l x _ _ (by omega) (show RdC w 0 w.heap.size 1 v l.length (l.map u16v) from by have hh : RdC w 0 w.heap.size 1 _ _ _ := (hl.mono (L' := 0) (B' := w.heap.size) (Nat.zero_le _) (by omega)); first | exact hh | exact hh.cast (by first | omega | (simp; try omega)) (by first | rfl | simp [u16v])))) ?_
 rintro _ _ ⟨⟨zi18, rfl, hzi18⟩, rfl⟩
 refine op_geq (ev_hit hN rfl) rfl (fun c8 => ?_) (fun c8 => ?_)
 · -- 8T
  refine op_assign (ev_hit hN rfl) ?_
  refine reg_nil ?_
  refine hK17 _ _ ?_
  refine wp_ret ?_
  refine ret1 rfl hd (ev_hit hN rfl) ⟨_, rfl, ?_⟩
  -- path 8T
  exact ⟨congrArg Value.bool (by rw [← hzi18]; simp; omega), rfl⟩
 · -- 8F
  refine op_assign (ev_hit hN rfl) ?_
  refine reg_nil ?_
  refine hK17 _ _ ?_
  refine wp_ret ?_
  refine ret1 rfl hd (ev_hit hN rfl) ⟨_, rfl, ?_⟩
  -- path 8F
  exact ⟨congrArg Value.bool (by rw [← hzi18]; simp; omega), rfl⟩

theorem rinW_ret (l : Lb) (x : UInt16) (v : Value) (w : World) (hz : l.length ≤ 1000000000000) (hl : RdC w 0 w.heap.size 1 v l.length (l.map u16v)) : Ret Try.prog 94 #[v, (Value.int .u16 (x.toNat : Int))] w (fun v' w' => v' = .bool (inL x l) ∧ w' = w) := by
 have hb := Below.refl w.heap.size w
 refine enter (N := 18) Try.func94 rfl rfl (by simp) fun a0 hN hd hA => ?_
 have s0 : a0.tmps.getD 0 undef = v := hA 0 (by simp)
 have s1 : a0.tmps.getD 1 undef = (Value.int .u16 (x.toNat : Int)) := hA 1 (by simp)
 clear hA
 refine seq_any fun K19 hK19 => ?_
 refine one_reg ?_
 refine op_assign rfl ?_
 refine reg_nil ?_
 refine hK19 _ _ ?_
 refine seq_any fun K20 hK20 => ?_
 refine seq_any fun K21 hK21 => ?_
 refine one_reg ?_
 refine op_assign rfl ?_
 refine reg_nil ?_
 refine hK21 _ _ ?_
 refine wp_block ?_
 refine loop_m (fun mz_ az_ w' => ∃ (i : Nat), mz_ = l.length - i ∧ (az_.tmps.getD 0 undef = v) ∧ (az_.tmps.getD 1 undef = (Value.int .u16 (x.toNat : Int))) ∧ (az_.tmps.getD 5 undef = (Value.int .i64 ((i : Nat) : Int))) ∧ (i ≤ l.length) ∧ (∀ j9, j9 < i → l.getD j9 0 ≠ x) ∧ w = w') _ hN hd ⟨0, rfl, (sl_base hN rfl s0), (sl_base hN rfl s1), (sl_hit hN rfl).trans (congrArg (Value.int .i64) (by omega)), Nat.zero_le _, (fun j9 h9 => absurd h9 (Nat.not_lt_zero _)), rfl⟩ ?_
 rintro _ a22 _ hN22 hd22 ⟨i, rfl, s22_0, s22_1, s22_5, hi, hno, rfl⟩
 refine seq_any fun K23 hK23 => ?_
 refine seq_any fun K24 hK24 => ?_
 refine one_reg ?_
 refine op_move (ev_base hN22 rfl s22_5) ?_
 refine op_move (ev_base hN22 rfl s22_0) ?_
 refine op_len_rd Try.underlying45 (ev_hit hN22 rfl) hl ?_
 refine op_lss (ev_hit hN22 rfl) (ev_hit hN22 rfl) (fun c9 => ?_) (fun c9 => ?_)
 · -- 9T
  refine reg_nil ?_
  refine hK24 _ _ ?_
  refine wp_cond_true (ev_hit hN22 rfl) ?_
  refine wp_skip ?_
  refine hK23 _ _ ?_
  refine seq_any fun K25 hK25 => ?_
  refine wp_block ?_
  refine seq_any fun K26 hK26 => ?_
  refine one_reg ?_
  refine op_move (ev_base hN22 rfl s22_0) ?_
  refine op_move (ev_base hN22 rfl s22_5) ?_
  refine op_index_rd slt45 (ev_hit hN22 rfl) hl (ev_hit hN22 rfl) (by omega) (by omega) ?_
  intro b27 o28 h0b27 h1b27 hc29
  refine op_load1 (v := (Value.int .u16 ((l.getD i 0).toNat : Int))) one46 (ev_hit hN22 rfl) (by have := hc29 0 (Value.int .u16 ((l.getD i 0).toNat : Int)) (by decide) (el_u16 (i := i) (by omega) (by omega)); simpa using this) ?_
  refine op_move (ev_base hN22 rfl s22_1) ?_
  refine op_eql (ev_hit hN22 rfl) (ev_hit hN22 rfl) (fun c17 => ?_) (fun c17 => ?_)
  · -- 17T
   refine reg_nil ?_
   refine hK26 _ _ ?_
   refine wp_cond_true (ev_hit hN22 rfl) ?_
   refine seq_any fun K30 hK30 => ?_
   refine one_reg ?_
   refine op_assign rfl ?_
   refine reg_nil ?_
   refine hK30 _ _ ?_
   refine wp_ret (blk_ret (then_ret (then_ret (blk_ret (then_ret ( ?_))))))
   refine ret1 rfl hd22 (ev_hit hN22 rfl) ⟨_, rfl, ?_⟩
   -- path 9T 17T
   exact ⟨congrArg Value.bool (in_t (i := i) (by omega) (u16_eq c17)).symm, rfl⟩
  · -- 17F
   refine reg_nil ?_
   refine hK26 _ _ ?_
   refine wp_cond_false (ev_hit hN22 rfl) ?_
   refine wp_skip ?_
   refine hK25 _ _ ?_
   refine one_reg ?_
   refine op_move (ev_base hN22 rfl s22_5) ?_
   refine op_add (ev_hit hN22 rfl) rfl (add64 (by omega)) ?_
   refine op_assign (ev_hit hN22 rfl) ?_
   refine reg_nil ?_
   -- round 9T 17F
   exact loop_next _ hN22 hd22 ⟨i + 1, rfl, (sl_base hN22 rfl s22_0), (sl_base hN22 rfl s22_1), (sl_hit hN22 rfl).trans (congrArg (Value.int .i64) (by omega)), (by omega), (no_step hno (fun e9 => c17 (by rw [e9]))), rfl⟩ (by omega)
 · -- 9F
  refine reg_nil ?_
  refine hK24 _ _ ?_
  refine wp_cond_false (ev_hit hN22 rfl) ?_
  refine wp_exit (then_exit (then_exit (blk_hit ?_)))
  refine hK20 _ _ ?_
  refine seq_any fun K31 hK31 => ?_
  refine one_reg ?_
  refine op_assign rfl ?_
  refine reg_nil ?_
  refine hK31 _ _ ?_
  refine wp_ret ?_
  refine ret1 rfl hd22 (ev_hit hN22 rfl) ⟨_, rfl, ?_⟩
  -- path 9F
  exact ⟨congrArg Value.bool (in_f (i := i) (by omega) hno).symm, rfl⟩

theorem minus1W_ret (x : UInt16) (m : Lb) (u : Value) (bc : Nat) (w : World) (hzm : m.length ≤ 1000000000000) (hbc : Bx w bc 54 [u]) (hm : RdC w 0 w.heap.size 1 u m.length (m.map u16v)) : Ret Try.prog 145 #[(Value.int .u16 (x.toNat : Int)), (ptr bc 0)] w (fun v' w' => v' = .bool (ninL x m) ∧ w' = w) := by
 have hb := Below.refl w.heap.size w
 refine enter (N := 8) Try.func145 rfl rfl (by simp) fun a0 hN hd hA => ?_
 have s0 : a0.tmps.getD 0 undef = (Value.int .u16 (x.toNat : Int)) := hA 0 (by simp)
 have s1 : a0.tmps.getD 1 undef = (ptr bc 0) := hA 1 (by simp)
 clear hA
 refine seq_any fun K32 hK32 => ?_
 refine one_reg ?_
 refine op_assign rfl ?_
 refine reg_nil ?_
 refine hK32 _ _ ?_
 refine seq_any fun K33 hK33 => ?_
 refine one_reg ?_
 refine op_load1 (v := u) one54 (ev_base hN rfl s1) (hbc.cell rfl) ?_
 refine op_move (ev_base hN rfl s0) ?_
 refine op_fn (vs := [u, (Value.int .u16 (x.toNat : Int))]) ok146 ⟨(ev_hit hN rfl), ⟨(ev_hit hN rfl), trivial⟩⟩ (Ret.flip (contW_ret m x _ _ (by omega) (show RdC w 0 w.heap.size 1 u m.length (m.map u16v) from by have hh : RdC w 0 w.heap.size 1 _ _ _ := (hm.mono (L' := 0) (B' := w.heap.size) (Nat.zero_le _) (by omega)); first | exact hh | exact hh.cast (by first | omega | (simp; try omega)) (by first | rfl | simp [u16v])))) ?_
 rintro _ _ ⟨rfl, rfl⟩
 refine op_not (ev_hit hN rfl) ?_
 refine op_assign (ev_hit hN rfl) ?_
 refine reg_nil ?_
 refine hK33 _ _ ?_
 refine wp_ret ?_
 refine ret1 rfl hd (ev_hit hN rfl) ⟨_, rfl, ?_⟩
 -- path
 exact ⟨rfl, rfl⟩

theorem those52_ret (l : Lb) (v : Value) (m : Lb) (u : Value) (bc : Nat) (w : World) (hz : l.length ≤ 1000000000000) (hl : RdC w 0 w.heap.size 1 v l.length (l.map u16v)) (hzm : m.length ≤ 1000000000000) (hbc : Bx w bc 54 [u]) (hm : RdC w 0 w.heap.size 1 u m.length (m.map u16v)) : Ret Try.prog 144 #[v, (Value.func (.func 145) #[] #[(ptr bc 0)])] w (fun v' w' => Below w.heap.size w w' ∧ Own w' w.heap.size 46 1 v' (l.filter (fun x => ninL x m)).length ((l.filter (fun x => ninL x m)).map u16v)) := by
 have hbc_lt := hbc.lt
 have hb := Below.refl w.heap.size w
 refine enter (N := 23) Try.func144 rfl rfl (by simp) fun a0 hN hd hA => ?_
 have s0 : a0.tmps.getD 0 undef = v := hA 0 (by simp)
 have s1 : a0.tmps.getD 1 undef = (Value.func (.func 145) #[] #[(ptr bc 0)]) := hA 1 (by simp)
 clear hA
 refine seq_any fun K34 hK34 => ?_
 refine one_reg ?_
 refine op_assign rfl ?_
 refine reg_nil ?_
 refine hK34 _ _ ?_
 refine seq_any fun K35 hK35 => ?_
 refine one_reg ?_
 refine op_assign rfl ?_
 refine reg_nil ?_
 refine hK35 _ _ ?_
 refine seq_any fun K36 hK36 => ?_
 refine seq_any fun K37 hK37 => ?_
 refine one_reg ?_
 refine op_move (ev_base hN rfl s0) ?_
 refine op_len_rd Try.underlying45 (ev_hit hN rfl) hl ?_
 refine op_move rfl ?_
 refine reg_nil ?_
 refine hK37 _ _ ?_
 refine wp_block ?_
 refine loop_m (fun mz_ az_ w' => ∃ (i : Nat) (r : Value), mz_ = l.length - i ∧ (az_.tmps.getD 1 undef = (Value.func (.func 145) #[] #[(ptr bc 0)])) ∧ (az_.tmps.getD 4 undef = (Value.slice none 0 0)) ∧ (az_.tmps.getD 8 undef = v) ∧ (az_.tmps.getD 9 undef = (Value.int .i64 ((l.length : Nat) : Int))) ∧ (az_.tmps.getD 10 undef = (Value.int .i64 ((i : Nat) : Int))) ∧ (az_.tmps.getD 5 undef = r) ∧ (i ≤ l.length) ∧ (((l.take i).filter (fun x => ninL x m)).length ≤ i) ∧ (Below w.heap.size w w') ∧ (w.heap.size ≤ w'.heap.size) ∧ (RdC w' 0 w.heap.size 1 v l.length (l.map u16v)) ∧ (Bx w' bc 54 [u]) ∧ (RdC w' 0 w.heap.size 1 u m.length (m.map u16v)) ∧ (Own w' w.heap.size 46 1 r ((l.take i).filter (fun x => ninL x m)).length (((l.take i).filter (fun x => ninL x m)).map u16v))) _ hN hd ⟨0, _, rfl, (sl_base hN rfl s1), (sl_hit hN rfl), (sl_hit hN rfl), (sl_hit hN rfl), (sl_hit hN rfl), (sl_hit hN rfl), Nat.zero_le _, (by simp), hb, (Nat.le_refl _), hl, hbc, hm, (Own.nil _ _ _ _)⟩ ?_
 rintro _ a38 w38 hN38 hd38 ⟨i, r, rfl, s38_1, s38_4, s38_8, s38_9, s38_10, s38_5, hi, hfl, hb, zl_w38, hl, hbc, hm, hO39⟩
 have z_w38 := hb.size
 refine seq_any fun K40 hK40 => ?_
 refine one_reg ?_
 refine op_lss (ev_base hN38 rfl s38_10) (ev_base hN38 rfl s38_9) (fun c11 => ?_) (fun c11 => ?_)
 · -- 11T
  refine reg_nil ?_
  refine hK40 _ _ ?_
  refine seq_any fun K41 hK41 => ?_
  refine wp_cond_true (ev_hit hN38 rfl) ?_
  refine wp_skip ?_
  refine hK41 _ _ ?_
  refine seq_any fun K42 hK42 => ?_
  refine wp_block ?_
  refine seq_any fun K43 hK43 => ?_
  refine one_reg ?_
  refine op_index_rd slt45 (ev_base hN38 rfl s38_8) hl (ev_base hN38 rfl s38_10) (by omega) (by omega) ?_
  intro b44 o45 h0b44 h1b44 hc46
  refine op_load1 (v := (Value.int .u16 ((l.getD i 0).toNat : Int))) one46 (ev_hit hN38 rfl) (by have := hc46 0 (Value.int .u16 ((l.getD i 0).toNat : Int)) (by decide) (el_u16 (i := i) (by omega) (by omega)); simpa using this) ?_
  refine op_assign (ev_hit hN38 rfl) ?_
  refine reg_nil ?_
  refine hK43 _ _ ?_
  refine seq_any fun K47 hK47 => ?_
  refine one_reg ?_
  refine op_move (ev_base hN38 rfl s38_1) ?_
  refine op_move (ev_hit hN38 rfl) ?_
  refine op_fnv (fs := []) (vs := [(Value.int .u16 ((l.getD i 0).toNat : Int))]) (cs := [(ptr bc 0)]) (ev_hit hN38 rfl) ok145 ⟨(ev_hit hN38 rfl), trivial⟩ (Ret.flip (minus1W_ret (l.getD i 0) m _ _ _ (by omega) hbc (show RdC w38 0 w38.heap.size 1 u m.length (m.map u16v) from by have hh : RdC w38 0 w38.heap.size 1 _ _ _ := (hm.mono (L' := 0) (B' := w38.heap.size) (Nat.zero_le _) (by omega)); first | exact hh | exact hh.cast (by first | omega | (simp; try omega)) (by first | rfl | simp [u16v])))) ?_
  rintro _ _ ⟨rfl, rfl⟩
  rcases Bool.eq_false_or_eq_true ((ninL (l.getD i 0) m)) with c16 | c16
  · -- 16T
   rw [c16]
   refine reg_nil ?_
   refine hK47 _ _ ?_
   refine wp_cond_true (ev_hit hN38 rfl) ?_
   refine one_reg ?_
   refine op_move (ev_base hN38 rfl s38_5) ?_
   refine op_move (ev_hit hN38 rfl) ?_
   refine op_bslice (e := 46) (pv := [(0, (Value.int .u16 ((l.getD i 0).toNat : Int)))]) (cs := [(Value.int .u16 ((l.getD i 0).toNat : Int))]) ⟨rfl, (ev_hit hN38 rfl), trivial⟩ (by kernel_rfl) ?_
   intro w48 b49 lo_b49 hi_b49 hB51 E50
   have ne_b49_r : r.ownBlock ≠ some b49 := fun hh => by have := (hO39.lt _ hh).2; omega
   have z_w48 := E50.size
   have hl := hl.keep0 E50
   have hbc := hbc.keep0 E50
   have hm := hm.keep0 E50
   have hO39 := hO39.keep0 E50
   have hb := below_step0 hb E50 hb.size
   have hP57 := hO39
   refine op_append slt45 (ev_hit hN38 rfl) hP57 (ev_hit hN38 rfl) (Src.ofRd Try.underlying45 (by decide) (RdC.ofBx (sz := 1) (n := 1) hB51 rfl (by decide)) (by simp [Value.oneCell', u8v])) (by unfold maxLen; omega) (by omega) hb.size ?_
   intro v52 w53 hO55 E54 hm56
   have z_w53 := E54.size
   have hl := hl.keepO hP57 E54 (by omega)
   have hbc := hbc.keepO hP57 E54 (by decide)
   have hm := hm.keepO hP57 E54 (by omega)
   have hB51 := hB51.keep E54 (fun hh => ne_b49_r hh.symm)
   have hb := below_stepO hb hP57 E54 hb.size (by omega)
   have hO55 : Own w53 w.heap.size 46 1 v52 (((l.take i).filter (fun x => ninL x m)).length + 1) (((((l.take i).filter (fun x => ninL x m)) ++ [(l.getD i 0)])).map u16v) := by simpa [u8v, u16v, cellsV] using hO55
   have ne_b49_v52 : v52.ownBlock ≠ some b49 := ne_step (w1 := w48) ⟨E54, hm56⟩ (by omega) ne_b49_r
   refine op_assign (ev_hit hN38 rfl) ?_
   refine reg_nil ?_
   refine hK42 _ _ ?_
   refine one_reg ?_
   refine op_add (ev_base hN38 rfl s38_10) rfl (add64 (by omega)) ?_
   refine op_move (ev_hit hN38 rfl) ?_
   refine reg_nil ?_
   -- round 11T 16T
   exact loop_next _ hN38 hd38 ⟨i + 1, _, rfl, (sl_base hN38 rfl s38_1), (sl_base hN38 rfl s38_4), (sl_base hN38 rfl s38_8), (sl_base hN38 rfl s38_9), (sl_hit hN38 rfl).trans (congrArg (Value.int .i64) (by omega)), (sl_hit hN38 rfl), (by omega), (by first | exact filter_le), hb, (by omega), hl, hbc, hm, (hO55.cast (by rw [filter_t (by omega) c16]; try simp) (by rw [filter_t (by omega) c16]; try simp [u16v]))⟩ (by omega)
  · -- 16F
   rw [c16]
   refine reg_nil ?_
   refine hK47 _ _ ?_
   refine wp_cond_false (ev_hit hN38 rfl) ?_
   refine wp_skip ?_
   refine hK42 _ _ ?_
   refine one_reg ?_
   refine op_add (ev_base hN38 rfl s38_10) rfl (add64 (by omega)) ?_
   refine op_move (ev_hit hN38 rfl) ?_
   refine reg_nil ?_
   -- round 11T 16F
   exact loop_next _ hN38 hd38 ⟨i + 1, _, rfl, (sl_base hN38 rfl s38_1), (sl_base hN38 rfl s38_4), (sl_base hN38 rfl s38_8), (sl_base hN38 rfl s38_9), (sl_hit hN38 rfl).trans (congrArg (Value.int .i64) (by omega)), (sl_base hN38 rfl s38_5), (by omega), (by first | exact filter_le), hb, (by omega), hl, hbc, hm, (hO39.cast (by rw [filter_f (by omega) c16]) (by rw [filter_f (by omega) c16]))⟩ (by omega)
 · -- 11F
  refine reg_nil ?_
  refine hK40 _ _ ?_
  refine seq_any fun K58 hK58 => ?_
  refine wp_cond_false (ev_hit hN38 rfl) ?_
  refine wp_exit (then_exit (then_exit (blk_hit ?_)))
  refine hK36 _ _ ?_
  refine seq_any fun K59 hK59 => ?_
  refine one_reg ?_
  refine op_move (ev_base hN38 rfl s38_5) ?_
  refine op_assign (ev_hit hN38 rfl) ?_
  refine reg_nil ?_
  refine hK59 _ _ ?_
  refine wp_ret ?_
  refine ret1 rfl hd38 (ev_hit hN38 rfl) ⟨_, rfl, ?_⟩
  -- path 11F
  rw [take_all l (by omega)] at hO39
  exact ⟨hb, hO39⟩

theorem minusW_ret (l m : Lb) (v u : Value) (w : World) (hz : l.length ≤ 1000000000000) (hzm : m.length ≤ 1000000000000) (hl : RdC w 0 w.heap.size 1 v l.length (l.map u16v)) (hm : RdC w 0 w.heap.size 1 u m.length (m.map u16v)) : Ret Try.prog 129 #[v, u] w (fun v' w' => Below w.heap.size w w' ∧ Own w' w.heap.size 46 1 v' (minusL l m).length ((minusL l m).map u16v)) := by
 have hb := Below.refl w.heap.size w
 refine enter (N := 8) Try.func129 rfl rfl (by simp) fun a0 hN hd hA => ?_
 have s0 : a0.tmps.getD 0 undef = v := hA 0 (by simp)
 have s1 : a0.tmps.getD 1 undef = u := hA 1 (by simp)
 clear hA
 refine seq_any fun K60 hK60 => ?_
 refine one_reg ?_
 refine op_box (cs := [u]) (ev_base hN rfl s1) (RdC.cells hm) ?_
 intro w61 b62 lo_b62 hi_b62 hB64 E63
 have z_w61 := E63.size
 have hl := hl.keep0 E63
 have hm := hm.keep0 E63
 have hb := below_step0 hb E63 hb.size
 refine op_assign rfl ?_
 refine reg_nil ?_
 refine hK60 _ _ ?_
 refine seq_any fun K65 hK65 => ?_
 refine one_reg ?_
 refine op_move (ev_base hN rfl s0) ?_
 refine op_mkfn (cv := [(ptr b62 0)]) ⟨(ev_hit hN rfl), trivial⟩ ?_
 refine op_fn (vs := [v, (Value.func (.func 145) #[] #[(ptr b62 0)])]) ok144 ⟨(ev_hit hN rfl), ⟨(ev_hit hN rfl), trivial⟩⟩ (those52_ret l _ m _ _ _ (by omega) (show RdC w61 0 w61.heap.size 1 v l.length (l.map u16v) from by have hh : RdC w61 0 w61.heap.size 1 _ _ _ := (hl.mono (L' := 0) (B' := w61.heap.size) (Nat.zero_le _) (by omega)); first | exact hh | exact hh.cast (by first | omega | (simp; try omega)) (by first | rfl | simp [u16v])) (by omega) hB64 (show RdC w61 0 w61.heap.size 1 u m.length (m.map u16v) from by have hh : RdC w61 0 w61.heap.size 1 _ _ _ := (hm.mono (L' := 0) (B' := w61.heap.size) (Nat.zero_le _) (by omega)); first | exact hh | exact hh.cast (by first | omega | (simp; try omega)) (by first | rfl | simp [u16v]))) ?_
 rintro v66 w67 ⟨E68, hO66⟩
 have E68 := grown_of_below E68
 have z_w67 := E68.size
 have hl := hl.keep0 E68
 have hm := hm.keep0 E68
 have hB64 := hB64.keep0 E68
 have hb := below_step0 hb E68 hb.size
 have hO66 := hO66.mono (base' := w.heap.size) (by omega)
 refine op_assign (ev_hit hN rfl) ?_
 refine reg_nil ?_
 refine hK65 _ _ ?_
 refine wp_ret ?_
 refine ret1 rfl hd (ev_hit hN rfl) ⟨_, rfl, ?_⟩
 -- path
 exact ⟨hb, hO66⟩

theorem flowsW_ret (l m : Lb) (v u : Value) (w : World) (hz : l.length ≤ 1000000000000) (hzm : m.length ≤ 1000000000000) (hl : RdC w 0 w.heap.size 1 v l.length (l.map u16v)) (hm : RdC w 0 w.heap.size 1 u m.length (m.map u16v)) : Ret Try.prog 106 #[v, u] w (fun v' w' => Below w.heap.size w w' ∧ v' = .bool (flowsL l m)) := by
 have hb := Below.refl w.heap.size w
 refine enter (N := 10) Try.func106 rfl rfl (by simp) fun a0 hN hd hA => ?_
 have s0 : a0.tmps.getD 0 undef = v := hA 0 (by simp)
 have s1 : a0.tmps.getD 1 undef = u := hA 1 (by simp)
 clear hA
 refine seq_any fun K69 hK69 => ?_
 refine one_reg ?_
 refine op_assign rfl ?_
 refine reg_nil ?_
 refine hK69 _ _ ?_
 refine seq_any fun K70 hK70 => ?_
 refine one_reg ?_
 refine op_move (ev_base hN rfl s0) ?_
 refine op_move (ev_base hN rfl s1) ?_
 refine op_fn (vs := [v, u]) ok129 ⟨(ev_hit hN rfl), ⟨(ev_hit hN rfl), trivial⟩⟩ (minusW_ret l m _ _ _ (by first | assumption | omega | (simp only [List.length_append, List.length_cons, List.length_nil, List.length_drop, List.length_take]; omega) | (dsimp only; omega) | decide | (simp [keyV, be8_len]; done)) (by first | assumption | omega | (simp only [List.length_append, List.length_cons, List.length_nil, List.length_drop, List.length_take]; omega) | (dsimp only; omega) | decide | (simp [keyV, be8_len]; done)) (show RdC w 0 w.heap.size 1 v l.length (l.map u16v) from by have hh : RdC w 0 w.heap.size 1 _ _ _ := (hl.mono (L' := 0) (B' := w.heap.size) (Nat.zero_le _) (by omega)); first | exact hh | exact hh.cast (by first | omega | (simp; try omega)) (by first | rfl | simp [u16v])) (show RdC w 0 w.heap.size 1 u m.length (m.map u16v) from by have hh : RdC w 0 w.heap.size 1 _ _ _ := (hm.mono (L' := 0) (B' := w.heap.size) (Nat.zero_le _) (by omega)); first | exact hh | exact hh.cast (by first | omega | (simp; try omega)) (by first | rfl | simp [u16v]))) ?_
 rintro v71 w72 ⟨E73, hO71⟩
 have E73 := grown_of_below E73
 have z_w72 := E73.size
 have hl := hl.keep0 E73
 have hm := hm.keep0 E73
 have hb := below_step0 hb E73 hb.size
 have hO71 := hO71.mono (base' := w.heap.size) (by omega)
 refine op_len_rd Try.underlying54 (ev_hit hN rfl) hO71.rdw ?_
 refine op_eql (ev_hit hN rfl) rfl (fun c9 => ?_) (fun c9 => ?_)
 · -- 9T
  refine op_assign (ev_hit hN rfl) ?_
  refine reg_nil ?_
  refine hK70 _ _ ?_
  refine wp_ret ?_
  refine ret1 rfl hd (ev_hit hN rfl) ⟨_, rfl, ?_⟩
  -- path 9T
  exact ⟨hb, congrArg Value.bool (by rw [flows_minus]; symm; first | exact decide_eq_true (by omega) | exact decide_eq_false (by omega))⟩
 · -- 9F
  refine op_assign (ev_hit hN rfl) ?_
  refine reg_nil ?_
  refine hK70 _ _ ?_
  refine wp_ret ?_
  refine ret1 rfl hd (ev_hit hN rfl) ⟨_, rfl, ?_⟩
  -- path 9F
  exact ⟨hb, congrArg Value.bool (by rw [flows_minus]; symm; first | exact decide_eq_true (by omega) | exact decide_eq_false (by omega))⟩

end Go.Proofs.Ytmhdbphpmgjpcaa

/- Walks, written by a program: what each function of the translation hands back. -/
namespace Go.Proofs.Ytmhdbphpmgjpcaa
open Go.Gx Go.RowKit
attribute [local irreducible] wpList wpStill Code.wp Calls
open Go.Sort (bitsLen)
theorem rflowsW_ret (l m : Lb) (v u : Value) (w : World) (hz : l.length ≤ 1000000000000) (hzm : m.length ≤ 1000000000000) (hl : RdC w 0 w.heap.size 1 v l.length (l.map u16v)) (hm : RdC w 0 w.heap.size 1 u m.length (m.map u16v)) : Ret Try.prog 50 #[v, u] w (fun v' w' => Below w.heap.size w w' ∧ v' = .bool (flowsL l m)) := by
 have hb := Below.refl w.heap.size w
 refine enter (N := 19) Try.func50 rfl rfl (by simp) fun a0 hN hd hA => ?_
 have s0 : a0.tmps.getD 0 undef = v := hA 0 (by simp)
 have s1 : a0.tmps.getD 1 undef = u := hA 1 (by simp)
 clear hA
 refine seq_any fun K1 hK1 => ?_
 refine one_reg ?_
 refine op_assign rfl ?_
 refine reg_nil ?_
 refine hK1 _ _ ?_
 refine seq_any fun K2 hK2 => ?_
 refine seq_any fun K3 hK3 => ?_
 refine one_reg ?_
 refine op_assign rfl ?_
 refine reg_nil ?_
 refine hK3 _ _ ?_
 refine wp_block ?_
 refine loop_m (fun mz_ az_ w' => ∃ (i : Nat), mz_ = l.length - i ∧ (az_.tmps.getD 0 undef = v) ∧ (az_.tmps.getD 1 undef = u) ∧ (az_.tmps.getD 5 undef = (Value.int .i64 ((i : Nat) : Int))) ∧ (i ≤ l.length) ∧ ((l.take i).all (fun x => inL x m) = true) ∧ w = w') _ hN hd ⟨0, rfl, (sl_base hN rfl s0), (sl_base hN rfl s1), (sl_hit hN rfl).trans (congrArg (Value.int .i64) (by omega)), Nat.zero_le _, rfl, rfl⟩ ?_
 rintro _ a4 _ hN4 hd4 ⟨i, rfl, s4_0, s4_1, s4_5, hi, hall, rfl⟩
 refine seq_any fun K5 hK5 => ?_
 refine seq_any fun K6 hK6 => ?_
 refine one_reg ?_
 refine op_move (ev_base hN4 rfl s4_5) ?_
 refine op_move (ev_base hN4 rfl s4_0) ?_
 refine op_len_rd Try.underlying54 (ev_hit hN4 rfl) hl ?_
 refine op_lss (ev_hit hN4 rfl) (ev_hit hN4 rfl) (fun c9 => ?_) (fun c9 => ?_)
 · -- 9T
  refine reg_nil ?_
  refine hK6 _ _ ?_
  refine wp_cond_true (ev_hit hN4 rfl) ?_
  refine wp_skip ?_
  refine hK5 _ _ ?_
  refine seq_any fun K7 hK7 => ?_
  refine wp_block ?_
  refine seq_any fun K8 hK8 => ?_
  refine one_reg ?_
  refine op_move (ev_base hN4 rfl s4_1) ?_
  refine op_move (ev_base hN4 rfl s4_0) ?_
  refine op_move (ev_base hN4 rfl s4_5) ?_
  refine op_index_rd slt54 (ev_hit hN4 rfl) hl (ev_hit hN4 rfl) (by omega) (by omega) ?_
  intro b9 o10 h0b9 h1b9 hc11
  refine op_load1 (v := (Value.int .u16 ((l.getD i 0).toNat : Int))) one46 (ev_hit hN4 rfl) (by have := hc11 0 (Value.int .u16 ((l.getD i 0).toNat : Int)) (by decide) (el_u16 (i := i) (by omega) (by omega)); simpa using this) ?_
  refine op_fn (vs := [u, (Value.int .u16 ((l.getD i 0).toNat : Int))]) ok94 ⟨(ev_hit hN4 rfl), ⟨(ev_hit hN4 rfl), trivial⟩⟩ (Ret.flip (rinW_ret m (l.getD i 0) _ _ (by omega) (show RdC w 0 w.heap.size 1 u m.length (m.map u16v) from by have hh : RdC w 0 w.heap.size 1 _ _ _ := (hm.mono (L' := 0) (B' := w.heap.size) (Nat.zero_le _) (by omega)); first | exact hh | exact hh.cast (by first | omega | (simp; try omega)) (by first | rfl | simp [u16v])))) ?_
  rintro _ _ ⟨rfl, rfl⟩
  rcases Bool.eq_false_or_eq_true ((inL (l.getD i 0) m)) with c17 | c17
  · -- 17T
   rw [c17]
   refine op_not (ev_hit hN4 rfl) ?_
   refine reg_nil ?_
   refine hK8 _ _ ?_
   refine wp_cond_false (ev_hit hN4 rfl) ?_
   refine wp_skip ?_
   refine hK7 _ _ ?_
   refine one_reg ?_
   refine op_move (ev_base hN4 rfl s4_5) ?_
   refine op_add (ev_hit hN4 rfl) rfl (add64 (by omega)) ?_
   refine op_assign (ev_hit hN4 rfl) ?_
   refine reg_nil ?_
   -- round 9T 17T
   exact loop_next _ hN4 hd4 ⟨i + 1, rfl, (sl_base hN4 rfl s4_0), (sl_base hN4 rfl s4_1), (sl_hit hN4 rfl).trans (congrArg (Value.int .i64) (by omega)), (by omega), (all_step (by omega) hall c17), rfl⟩ (by omega)
  · -- 17F
   rw [c17]
   refine op_not (ev_hit hN4 rfl) ?_
   refine reg_nil ?_
   refine hK8 _ _ ?_
   refine wp_cond_true (ev_hit hN4 rfl) ?_
   refine seq_any fun K12 hK12 => ?_
   refine one_reg ?_
   refine op_assign rfl ?_
   refine reg_nil ?_
   refine hK12 _ _ ?_
   refine wp_ret (blk_ret (then_ret (then_ret (blk_ret (then_ret ( ?_))))))
   refine ret1 rfl hd4 (ev_hit hN4 rfl) ⟨_, rfl, ?_⟩
   -- path 9T 17F
   exact ⟨hb, congrArg Value.bool (all_f (i := i) (by omega) c17).symm⟩
 · -- 9F
  refine reg_nil ?_
  refine hK6 _ _ ?_
  refine wp_cond_false (ev_hit hN4 rfl) ?_
  refine wp_exit (then_exit (then_exit (blk_hit ?_)))
  refine hK2 _ _ ?_
  refine seq_any fun K13 hK13 => ?_
  refine one_reg ?_
  refine op_assign rfl ?_
  refine reg_nil ?_
  refine hK13 _ _ ?_
  refine wp_ret ?_
  refine ret1 rfl hd4 (ev_hit hN4 rfl) ⟨_, rfl, ?_⟩
  -- path 9F
  exact ⟨hb, congrArg Value.bool (all_end (i := i) (by omega) hall).symm⟩

end Go.Proofs.Ytmhdbphpmgjpcaa

/- Walks, written by a program: what each function of the translation hands back. -/
namespace Go.Proofs.Ytmhdbphpmgjpcaa
open Go.Gx Go.RowKit
attribute [local irreducible] wpList wpStill Code.wp Calls
open Go.Sort (bitsLen)
end Go.Proofs.Ytmhdbphpmgjpcaa

/- Plain laws of rows: what is written is read, cut off it is short, with more behind it is none, and what is read is what is written. -/
namespace Go.Proofs.Ytmhdbphpmgjpcaa
open Go.Gx
end Go.Proofs.Ytmhdbphpmgjpcaa

/- Plain laws of labels' bytes and of index keys. -/
namespace Go.Proofs.Ytmhdbphpmgjpcaa
open Go.Gx
/-! how keys stand -/
end Go.Proofs.Ytmhdbphpmgjpcaa

/- Walks, written by a program: what each function of the translation hands back. -/
namespace Go.Proofs.Ytmhdbphpmgjpcaa
open Go.Gx Go.RowKit
attribute [local irreducible] wpList wpStill Code.wp Calls

theorem refMay_ret (l : Lb) (v : Value) (w : World) (hl : l.length ≤ 9223372036854775807) (h : RdC w 0 w.heap.size 1 v l.length (l.map u16v)) : Ret Try.prog 33 #[v] w (fun v' w' => Below w.heap.size w w' ∧ v' = .bool (mayL l)) := by
 have hb := Below.refl w.heap.size w
 refine enter (N := 23) Try.func33 rfl rfl (by simp) fun a0 hN hd hA => ?_
 have s0 : a0.tmps.getD 0 undef = v := hA 0 (by simp)
 clear hA
 refine seq_any fun K1 hK1 => ?_
 refine one_reg ?_
 refine op_assign rfl ?_
 refine reg_nil ?_
 refine hK1 _ _ ?_
 refine seq_any fun K2 hK2 => ?_
 refine seq_any fun K3 hK3 => ?_
 refine one_reg ?_
 refine op_assign rfl ?_
 refine reg_nil ?_
 refine hK3 _ _ ?_
 refine wp_block ?_
 refine loop_m (fun mz_ az_ w' => ∃ (i : Nat), mz_ = l.length - i ∧ (az_.tmps.getD 0 undef = v) ∧ (az_.tmps.getD 3 undef = (Value.int .i64 ((i : Nat) : Int))) ∧ (1 ≤ i ∧ (i ≤ l.length ∨ i = 1)) ∧ (Rise (l.take i)) ∧ (Below w.heap.size w w') ∧ (w.heap.size ≤ w'.heap.size) ∧ (RdC w' 0 w.heap.size 1 v l.length (l.map u16v))) _ hN hd ⟨1, rfl, (sl_base hN rfl s0), (sl_hit hN rfl).trans (congrArg (Value.int .i64) (by omega)), ⟨Nat.le_refl _, .inr rfl⟩, rise_one, hb, (Nat.le_refl _), h⟩ ?_
 rintro _ a4 w4 hN4 hd4 ⟨i, rfl, s4_0, s4_3, hi, hr, hb, zl_w4, h⟩
 have z_w4 := hb.size
 refine seq_any fun K5 hK5 => ?_
 refine seq_any fun K6 hK6 => ?_
 refine one_reg ?_
 refine op_move (ev_base hN4 rfl s4_3) ?_
 refine op_move (ev_base hN4 rfl s4_0) ?_
 refine op_len_rd Try.underlying54 (ev_hit hN4 rfl) h ?_
 refine op_lss (ev_hit hN4 rfl) (ev_hit hN4 rfl) (fun c7 => ?_) (fun c7 => ?_)
 · -- 7T
  refine reg_nil ?_
  refine hK6 _ _ ?_
  refine wp_cond_true (ev_hit hN4 rfl) ?_
  refine wp_skip ?_
  refine hK5 _ _ ?_
  refine seq_any fun K7 hK7 => ?_
  refine wp_block ?_
  refine seq_any fun K8 hK8 => ?_
  refine reg_still mixed (by kernel_rfl) ?_
  intro w10 E9
  have z_w10 := E9.size
  have h := h.keep0 E9
  have hb := below_step0 hb E9 hb.size
  refine st_step rfl (fun _ h9 => op_move (ev_base hN4 rfl s4_0) h9) ?_
  refine st_step rfl (fun _ h9 => op_move (ev_base hN4 rfl s4_3) h9) ?_
  refine st_step rfl (fun _ h9 => op_sub (ev_hit hN4 rfl) rfl (sub64 (by omega)) h9) ?_
  refine st_index_rd slt54 (ev_hit hN4 rfl) h (ev_hit hN4 rfl) (by omega) (by omega) ?_
  intro b11 o12 h0b11 h1b11 hc13
  refine st_step rfl (fun _ h9 => op_load1 (v := (Value.int .u16 ((l.getD (i - 1) 0).toNat : Int))) one46 (ev_hit hN4 rfl) (by have := hc13 0 (Value.int .u16 ((l.getD (i - 1) 0).toNat : Int)) (by decide) (el_u16 (i := (i - 1)) (by omega) (by omega)); simpa using this) h9) ?_
  refine st_step rfl (fun _ h9 => op_move (ev_base hN4 rfl s4_0) h9) ?_
  refine st_step rfl (fun _ h9 => op_move (ev_base hN4 rfl s4_3) h9) ?_
  refine st_index_rd slt54 (ev_hit hN4 rfl) h (ev_hit hN4 rfl) (by omega) (by omega) ?_
  intro b14 o15 h0b14 h1b14 hc16
  refine st_step rfl (fun _ h9 => op_load1 (v := (Value.int .u16 ((l.getD i 0).toNat : Int))) one46 (ev_hit hN4 rfl) (by have := hc16 0 (Value.int .u16 ((l.getD i 0).toNat : Int)) (by decide) (el_u16 (i := i) (by omega) (by omega)); simpa using this) h9) ?_
  refine st_step rfl (fun _ h9 => op_cmp (b := (decide (((l.getD i 0).toNat : Int) ≤ ((l.getD (i - 1) 0).toNat : Int)))) (ev_hit hN4 rfl) (ev_hit hN4 rfl) (b_geq rfl) h9) ?_
  refine st_nil ?_
  refine hK8 _ _ ?_
  refine wp_cond_split (ev_hit hN4 rfl) (fun c19 => ?_) (fun c19 => ?_)
  · -- 19T
   have c19 := of_decide_eq_true c19
   refine seq_any fun K17 hK17 => ?_
   refine one_reg ?_
   refine op_assign rfl ?_
   refine reg_nil ?_
   refine hK17 _ _ ?_
   refine wp_ret (blk_ret (then_ret (then_ret (blk_ret (then_ret ( ?_))))))
   refine ret1 rfl hd4 (ev_hit hN4 rfl) ⟨_, rfl, ?_⟩
   -- path 7T 19T
   exact ⟨hb, congrArg Value.bool (by rw [mayL, decide_eq_false (rise_bad (i := i) (by omega) (by omega) (by omega)), Bool.false_and])⟩
  · -- 19F
   have c19 := of_decide_eq_false c19
   refine wp_skip ?_
   refine hK7 _ _ ?_
   refine one_reg ?_
   refine op_move (ev_base hN4 rfl s4_3) ?_
   refine op_add (ev_hit hN4 rfl) rfl (add64 (by omega)) ?_
   refine op_assign (ev_hit hN4 rfl) ?_
   refine reg_nil ?_
   -- round 7T 19F
   exact loop_next _ hN4 hd4 ⟨i + 1, rfl, (sl_base hN4 rfl s4_0), (sl_hit hN4 rfl).trans (congrArg (Value.int .i64) (by omega)), (by omega), (rise_step (by omega) (by omega) hr (by omega)), hb, (by omega), h⟩ (by omega)
 · -- 7F
  refine reg_nil ?_
  refine hK6 _ _ ?_
  refine wp_cond_false (ev_hit hN4 rfl) ?_
  refine wp_exit (then_exit (then_exit (blk_hit ?_)))
  refine hK2 _ _ ?_
  refine seq_any fun K18 hK18 => ?_
  refine one_reg ?_
  refine op_move (ev_base hN4 rfl s4_0) ?_
  refine op_len_rd Try.underlying54 (ev_hit hN4 rfl) h ?_
  refine op_leq (ev_hit hN4 rfl) rfl (fun c22 => ?_) (fun c22 => ?_)
  · -- 22T
   refine op_assign (ev_hit hN4 rfl) ?_
   refine reg_nil ?_
   refine hK18 _ _ ?_
   refine wp_ret ?_
   refine ret1 rfl hd4 (ev_hit hN4 rfl) ⟨_, rfl, ?_⟩
   -- path 7F 22T
   have hr2 : Rise l := by rwa [List.take_of_length_le (by omega)] at hr
   exact ⟨hb, congrArg Value.bool (by rw [mayL, decide_eq_true hr2, Bool.true_and]; exact (decide_eq_true (by omega)).symm)⟩
  · -- 22F
   refine op_assign (ev_hit hN4 rfl) ?_
   refine reg_nil ?_
   refine hK18 _ _ ?_
   refine wp_ret ?_
   refine ret1 rfl hd4 (ev_hit hN4 rfl) ⟨_, rfl, ?_⟩
   -- path 7F 22F
   have hr2 : Rise l := by rwa [List.take_of_length_le (by omega)] at hr
   exact ⟨hb, congrArg Value.bool (by rw [mayL, decide_eq_true hr2, Bool.true_and]; exact (decide_eq_false (by omega)).symm)⟩

end Go.Proofs.Ytmhdbphpmgjpcaa

/- Walks, written by a program: what each function of the translation hands back. -/
namespace Go.Proofs.Ytmhdbphpmgjpcaa
open Go.Gx Go.RowKit
attribute [local irreducible] wpList wpStill Code.wp Calls

theorem isNaN_int_ret (m : Int) (w : World) : Ret Try.prog 139 #[(Value.int .i64 m)] w (fun v' w' => v' = .bool false ∧ w' = w) := by
 have hb := Below.refl w.heap.size w
 refine enter (N := 6) Try.func139 rfl rfl (by simp) fun a0 hN hd hA => ?_
 have s0 : a0.tmps.getD 0 undef = (Value.int .i64 m) := hA 0 (by simp)
 clear hA
 refine seq_any fun K1 hK1 => ?_
 refine one_reg ?_
 refine op_assign rfl ?_
 refine reg_nil ?_
 refine hK1 _ _ ?_
 refine seq_any fun K2 hK2 => ?_
 refine one_reg ?_
 refine op_move (ev_base hN rfl s0) ?_
 refine op_move (ev_base hN rfl s0) ?_
 refine op_neq (ev_hit hN rfl) (ev_hit hN rfl) (fun c5 => ?_) (fun c5 => ?_)
 · -- 5T
  refine op_assign (ev_hit hN rfl) ?_
  refine reg_nil ?_
  refine hK2 _ _ ?_
  refine wp_ret ?_
  refine ret1 rfl hd (ev_hit hN rfl) ⟨_, rfl, ?_⟩
  -- path 5T
  exact (c5 rfl).elim
 · -- 5F
  refine op_assign (ev_hit hN rfl) ?_
  refine reg_nil ?_
  refine hK2 _ _ ?_
  refine wp_ret ?_
  refine ret1 rfl hd (ev_hit hN rfl) ⟨_, rfl, ?_⟩
  -- path 5F
  exact ⟨rfl, rfl⟩

theorem cmpCompare_int_ret (m n : Int) (w : World) : Ret Try.prog 122 #[(Value.int .i64 m), (Value.int .i64 n)] w (fun v' w' => v' = .int .i64 (cmpI m n) ∧ w' = w) := by
 have hb := Below.refl w.heap.size w
 refine enter (N := 20) Try.func122 rfl rfl (by simp) fun a0 hN hd hA => ?_
 have s0 : a0.tmps.getD 0 undef = (Value.int .i64 m) := hA 0 (by simp)
 have s1 : a0.tmps.getD 1 undef = (Value.int .i64 n) := hA 1 (by simp)
 clear hA
 refine seq_any fun K3 hK3 => ?_
 refine one_reg ?_
 refine op_assign rfl ?_
 refine reg_nil ?_
 refine hK3 _ _ ?_
 refine seq_any fun K4 hK4 => ?_
 refine one_reg ?_
 refine op_move (ev_base hN rfl s0) ?_
 refine op_fn (vs := [(Value.int .i64 m)]) ok139 ⟨(ev_hit hN rfl), trivial⟩ (Ret.flip (isNaN_int_ret m _)) ?_
 rintro _ _ ⟨rfl, rfl⟩
 refine op_assign (ev_hit hN rfl) ?_
 refine reg_nil ?_
 refine hK4 _ _ ?_
 refine seq_any fun K5 hK5 => ?_
 refine one_reg ?_
 refine op_move (ev_base hN rfl s1) ?_
 refine op_fn (vs := [(Value.int .i64 n)]) ok139 ⟨(ev_hit hN rfl), trivial⟩ (Ret.flip (isNaN_int_ret n _)) ?_
 rintro _ _ ⟨rfl, rfl⟩
 refine op_assign (ev_hit hN rfl) ?_
 refine reg_nil ?_
 refine hK5 _ _ ?_
 refine seq_any fun K6 hK6 => ?_
 refine seq_any fun K7 hK7 => ?_
 refine one_reg ?_
 refine op_move (ev_hit hN rfl) ?_
 refine reg_nil ?_
 refine hK7 _ _ ?_
 refine wp_cond_false (ev_hit hN rfl) ?_
 refine wp_skip ?_
 refine hK6 _ _ ?_
 refine seq_any fun K8 hK8 => ?_
 refine seq_any fun K9 hK9 => ?_
 refine one_reg ?_
 refine op_move (ev_hit hN rfl) ?_
 refine reg_nil ?_
 refine hK9 _ _ ?_
 refine wp_cond_false (ev_hit hN rfl) ?_
 refine wp_skip ?_
 refine hK8 _ _ ?_
 refine seq_any fun K10 hK10 => ?_
 refine seq_any fun K11 hK11 => ?_
 refine one_reg ?_
 refine op_move (ev_base hN rfl s0) ?_
 refine op_move (ev_base hN rfl s1) ?_
 refine op_lss (ev_hit hN rfl) (ev_hit hN rfl) (fun c16 => ?_) (fun c16 => ?_)
 · -- 16T
  refine reg_nil ?_
  refine hK11 _ _ ?_
  refine wp_cond_true (ev_hit hN rfl) ?_
  refine seq_any fun K12 hK12 => ?_
  refine one_reg ?_
  refine op_assign rfl ?_
  refine reg_nil ?_
  refine hK12 _ _ ?_
  refine wp_ret (then_ret ( ?_))
  refine ret1 rfl hd (ev_hit hN rfl) ⟨_, rfl, ?_⟩
  -- path 16T
  exact ⟨congrArg (Value.int .i64) (by simp only [cmpI]; (repeat' split) <;> omega), rfl⟩
 · -- 16F
  refine reg_nil ?_
  refine hK11 _ _ ?_
  refine wp_cond_false (ev_hit hN rfl) ?_
  refine wp_skip ?_
  refine hK10 _ _ ?_
  refine seq_any fun K13 hK13 => ?_
  refine seq_any fun K14 hK14 => ?_
  refine one_reg ?_
  refine op_move (ev_base hN rfl s0) ?_
  refine op_move (ev_base hN rfl s1) ?_
  refine op_gtr (ev_hit hN rfl) (ev_hit hN rfl) (fun c19 => ?_) (fun c19 => ?_)
  · -- 19T
   refine reg_nil ?_
   refine hK14 _ _ ?_
   refine wp_cond_true (ev_hit hN rfl) ?_
   refine seq_any fun K15 hK15 => ?_
   refine one_reg ?_
   refine op_assign rfl ?_
   refine reg_nil ?_
   refine hK15 _ _ ?_
   refine wp_ret (then_ret ( ?_))
   refine ret1 rfl hd (ev_hit hN rfl) ⟨_, rfl, ?_⟩
   -- path 16F 19T
   exact ⟨congrArg (Value.int .i64) (by simp only [cmpI]; (repeat' split) <;> omega), rfl⟩
  · -- 19F
   refine reg_nil ?_
   refine hK14 _ _ ?_
   refine wp_cond_false (ev_hit hN rfl) ?_
   refine wp_skip ?_
   refine hK13 _ _ ?_
   refine seq_any fun K16 hK16 => ?_
   refine one_reg ?_
   refine op_assign rfl ?_
   refine reg_nil ?_
   refine hK16 _ _ ?_
   refine wp_ret ?_
   refine ret1 rfl hd (ev_hit hN rfl) ⟨_, rfl, ?_⟩
   -- path 16F 19F
   exact ⟨congrArg (Value.int .i64) (by simp only [cmpI]; (repeat' split) <;> omega), rfl⟩

theorem Or_ret (m n : Int) (v : Value) (w : World) (hv : RdC w 0 w.heap.size 1 v 2 [(Value.int .i64 m), (Value.int .i64 n)]) : Ret Try.prog 121 #[v] w (fun v' w' => Below w.heap.size w w' ∧ v' = .int .i64 (if m = 0 then n else m)) := by
 have hb := Below.refl w.heap.size w
 refine enter (N := 18) Try.func121 rfl rfl (by simp) fun a0 hN hd hA => ?_
 have s0 : a0.tmps.getD 0 undef = v := hA 0 (by simp)
 clear hA
 refine seq_any fun K17 hK17 => ?_
 refine one_reg ?_
 refine op_assign rfl ?_
 refine reg_nil ?_
 refine hK17 _ _ ?_
 refine seq_any fun K18 hK18 => ?_
 refine one_reg ?_
 refine op_assign rfl ?_
 refine reg_nil ?_
 refine hK18 _ _ ?_
 refine seq_any fun K19 hK19 => ?_
 refine seq_any fun K20 hK20 => ?_
 refine one_reg ?_
 refine op_move (ev_base hN rfl s0) ?_
 refine op_len_rd Try.underlying35 (ev_hit hN rfl) hv ?_
 refine op_move rfl ?_
 refine reg_nil ?_
 refine hK20 _ _ ?_
 refine wp_block ?_
 refine wp_loop_rounds 3 ?_
 refine rounds_any fun K21 hK21 => ?_
 refine seq_any fun K22 hK22 => ?_
 refine one_reg ?_
 refine op_bin (v := .bool true) (ev_hit hN rfl) (ev_hit hN rfl) (by rw [binOp_lss]; rfl) ?_
 refine reg_nil ?_
 refine hK22 _ _ ?_
 refine seq_any fun K23 hK23 => ?_
 refine wp_cond_true (ev_hit hN rfl) ?_
 refine wp_skip ?_
 refine hK23 _ _ ?_
 refine seq_any fun K24 hK24 => ?_
 refine wp_block ?_
 refine seq_any fun K25 hK25 => ?_
 refine one_reg ?_
 refine op_index_rd slt35 (ev_hit hN rfl) hv (ev_hit hN rfl) (by omega) (by omega) ?_
 intro b26 o27 h0b26 h1b26 hc28
 refine op_load1 (v := (Value.int .i64 m)) one3 (ev_hit hN rfl) (by have := hc28 0 (Value.int .i64 m) (by decide) rfl; simpa using this) ?_
 refine op_assign (ev_hit hN rfl) ?_
 refine reg_nil ?_
 refine hK25 _ _ ?_
 refine seq_any fun K29 hK29 => ?_
 refine one_reg ?_
 refine op_move (ev_hit hN rfl) ?_
 refine op_move (ev_hit hN rfl) ?_
 refine op_neq (ev_hit hN rfl) (ev_hit hN rfl) (fun c14 => ?_) (fun c14 => ?_)
 · -- 14T
  refine reg_nil ?_
  refine hK29 _ _ ?_
  refine wp_cond_true (ev_hit hN rfl) ?_
  refine seq_any fun K30 hK30 => ?_
  refine one_reg ?_
  refine op_move (ev_hit hN rfl) ?_
  refine op_assign (ev_hit hN rfl) ?_
  refine reg_nil ?_
  refine hK30 _ _ ?_
  refine wp_ret (blk_ret (then_ret (then_ret (blk_ret (then_ret ( ?_))))))
  refine ret1 rfl hd (ev_hit hN rfl) ⟨_, rfl, ?_⟩
  -- path 14T
  exact ⟨hb, congrArg (Value.int .i64) (by split <;> omega)⟩
 · -- 14F
  refine reg_nil ?_
  refine hK29 _ _ ?_
  refine wp_cond_false (ev_hit hN rfl) ?_
  refine wp_skip ?_
  refine hK24 _ _ ?_
  refine one_reg ?_
  refine op_add (r := 1) (ev_hit hN rfl) rfl (by decide) ?_
  refine op_move (ev_hit hN rfl) ?_
  refine reg_nil ?_
  refine hK21 _ _ ?_
  refine rounds_any fun K31 hK31 => ?_
  refine seq_any fun K32 hK32 => ?_
  refine one_reg ?_
  refine op_bin (v := .bool true) (ev_hit hN rfl) (ev_hit hN rfl) (by rw [binOp_lss]; rfl) ?_
  refine reg_nil ?_
  refine hK32 _ _ ?_
  refine seq_any fun K33 hK33 => ?_
  refine wp_cond_true (ev_hit hN rfl) ?_
  refine wp_skip ?_
  refine hK33 _ _ ?_
  refine seq_any fun K34 hK34 => ?_
  refine wp_block ?_
  refine seq_any fun K35 hK35 => ?_
  refine one_reg ?_
  refine op_index_rd slt35 (ev_hit hN rfl) hv (ev_hit hN rfl) (by omega) (by omega) ?_
  intro b36 o37 h0b36 h1b36 hc38
  refine op_load1 (v := (Value.int .i64 n)) one3 (ev_hit hN rfl) (by have := hc38 0 (Value.int .i64 n) (by decide) rfl; simpa using this) ?_
  refine op_assign (ev_hit hN rfl) ?_
  refine reg_nil ?_
  refine hK35 _ _ ?_
  refine seq_any fun K39 hK39 => ?_
  refine one_reg ?_
  refine op_move (ev_hit hN rfl) ?_
  refine op_move (ev_hit hN rfl) ?_
  refine op_neq (ev_hit hN rfl) (ev_hit hN rfl) (fun c14 => ?_) (fun c14 => ?_)
  · -- 14T
   refine reg_nil ?_
   refine hK39 _ _ ?_
   refine wp_cond_true (ev_hit hN rfl) ?_
   refine seq_any fun K40 hK40 => ?_
   refine one_reg ?_
   refine op_move (ev_hit hN rfl) ?_
   refine op_assign (ev_hit hN rfl) ?_
   refine reg_nil ?_
   refine hK40 _ _ ?_
   refine wp_ret (blk_ret (then_ret (then_ret (blk_ret (then_ret ( ?_))))))
   refine ret1 rfl hd (ev_hit hN rfl) ⟨_, rfl, ?_⟩
   -- path 14F 14T
   exact ⟨hb, congrArg (Value.int .i64) (by split <;> omega)⟩
  · -- 14F
   refine reg_nil ?_
   refine hK39 _ _ ?_
   refine wp_cond_false (ev_hit hN rfl) ?_
   refine wp_skip ?_
   refine hK34 _ _ ?_
   refine one_reg ?_
   refine op_add (r := 2) (ev_hit hN rfl) rfl (by decide) ?_
   refine op_move (ev_hit hN rfl) ?_
   refine reg_nil ?_
   refine hK31 _ _ ?_
   refine rounds_any fun K41 hK41 => ?_
   refine seq_any fun K42 hK42 => ?_
   refine one_reg ?_
   refine op_bin (v := .bool false) (ev_hit hN rfl) (ev_hit hN rfl) (by rw [binOp_lss]; rfl) ?_
   refine reg_nil ?_
   refine hK42 _ _ ?_
   refine seq_any fun K43 hK43 => ?_
   refine wp_cond_false (ev_hit hN rfl) ?_
   refine wp_exit (then_exit (then_exit (blk_hit ?_)))
   refine hK19 _ _ ?_
   refine seq_any fun K44 hK44 => ?_
   refine one_reg ?_
   refine op_move (ev_hit hN rfl) ?_
   refine op_assign (ev_hit hN rfl) ?_
   refine reg_nil ?_
   refine hK44 _ _ ?_
   refine wp_ret ?_
   refine ret1 rfl hd (ev_hit hN rfl) ⟨_, rfl, ?_⟩
   -- path 14F 14F
   exact ⟨hb, congrArg (Value.int .i64) (by split <;> omega)⟩

theorem cmp16_ret (x y : UInt16) (w : World) : Ret Try.prog 140 #[(Value.int .u16 (x.toNat : Int)), (Value.int .u16 (y.toNat : Int))] w (fun v' w' => v' = .int .i64 (cmpI (x.toNat : Int) (y.toNat : Int)) ∧ w' = w) := by
 have hb := Below.refl w.heap.size w
 refine enter (N := 20) Try.func140 rfl rfl (by simp) fun a0 hN hd hA => ?_
 have s0 : a0.tmps.getD 0 undef = (Value.int .u16 (x.toNat : Int)) := hA 0 (by simp)
 have s1 : a0.tmps.getD 1 undef = (Value.int .u16 (y.toNat : Int)) := hA 1 (by simp)
 clear hA
 refine seq_any fun K45 hK45 => ?_
 refine one_reg ?_
 refine op_assign rfl ?_
 refine reg_nil ?_
 refine hK45 _ _ ?_
 refine seq_any fun K46 hK46 => ?_
 refine one_reg ?_
 refine op_move (ev_base hN rfl s0) ?_
 refine op_fn (vs := [(Value.int .u16 (x.toNat : Int))]) ok151 ⟨(ev_hit hN rfl), trivial⟩ (Ret.flip (isNaN16_ret x _)) ?_
 rintro _ _ ⟨rfl, rfl⟩
 refine op_assign (ev_hit hN rfl) ?_
 refine reg_nil ?_
 refine hK46 _ _ ?_
 refine seq_any fun K47 hK47 => ?_
 refine one_reg ?_
 refine op_move (ev_base hN rfl s1) ?_
 refine op_fn (vs := [(Value.int .u16 (y.toNat : Int))]) ok151 ⟨(ev_hit hN rfl), trivial⟩ (Ret.flip (isNaN16_ret y _)) ?_
 rintro _ _ ⟨rfl, rfl⟩
 refine op_assign (ev_hit hN rfl) ?_
 refine reg_nil ?_
 refine hK47 _ _ ?_
 refine seq_any fun K48 hK48 => ?_
 refine seq_any fun K49 hK49 => ?_
 refine one_reg ?_
 refine op_move (ev_hit hN rfl) ?_
 refine reg_nil ?_
 refine hK49 _ _ ?_
 refine wp_cond_false (ev_hit hN rfl) ?_
 refine wp_skip ?_
 refine hK48 _ _ ?_
 refine seq_any fun K50 hK50 => ?_
 refine seq_any fun K51 hK51 => ?_
 refine one_reg ?_
 refine op_move (ev_hit hN rfl) ?_
 refine reg_nil ?_
 refine hK51 _ _ ?_
 refine wp_cond_false (ev_hit hN rfl) ?_
 refine wp_skip ?_
 refine hK50 _ _ ?_
 refine seq_any fun K52 hK52 => ?_
 refine seq_any fun K53 hK53 => ?_
 refine one_reg ?_
 refine op_move (ev_base hN rfl s0) ?_
 refine op_move (ev_base hN rfl s1) ?_
 refine op_lss (ev_hit hN rfl) (ev_hit hN rfl) (fun c16 => ?_) (fun c16 => ?_)
 · -- 16T
  refine reg_nil ?_
  refine hK53 _ _ ?_
  refine wp_cond_true (ev_hit hN rfl) ?_
  refine seq_any fun K54 hK54 => ?_
  refine one_reg ?_
  refine op_assign rfl ?_
  refine reg_nil ?_
  refine hK54 _ _ ?_
  refine wp_ret (then_ret ( ?_))
  refine ret1 rfl hd (ev_hit hN rfl) ⟨_, rfl, ?_⟩
  -- path 16T
  exact ⟨congrArg (Value.int .i64) (by simp only [cmpI]; (repeat' split) <;> omega), rfl⟩
 · -- 16F
  refine reg_nil ?_
  refine hK53 _ _ ?_
  refine wp_cond_false (ev_hit hN rfl) ?_
  refine wp_skip ?_
  refine hK52 _ _ ?_
  refine seq_any fun K55 hK55 => ?_
  refine seq_any fun K56 hK56 => ?_
  refine one_reg ?_
  refine op_move (ev_base hN rfl s0) ?_
  refine op_move (ev_base hN rfl s1) ?_
  refine op_gtr (ev_hit hN rfl) (ev_hit hN rfl) (fun c19 => ?_) (fun c19 => ?_)
  · -- 19T
   refine reg_nil ?_
   refine hK56 _ _ ?_
   refine wp_cond_true (ev_hit hN rfl) ?_
   refine seq_any fun K57 hK57 => ?_
   refine one_reg ?_
   refine op_assign rfl ?_
   refine reg_nil ?_
   refine hK57 _ _ ?_
   refine wp_ret (then_ret ( ?_))
   refine ret1 rfl hd (ev_hit hN rfl) ⟨_, rfl, ?_⟩
   -- path 16F 19T
   exact ⟨congrArg (Value.int .i64) (by simp only [cmpI]; (repeat' split) <;> omega), rfl⟩
  · -- 19F
   refine reg_nil ?_
   refine hK56 _ _ ?_
   refine wp_cond_false (ev_hit hN rfl) ?_
   refine wp_skip ?_
   refine hK55 _ _ ?_
   refine seq_any fun K58 hK58 => ?_
   refine one_reg ?_
   refine op_assign rfl ?_
   refine reg_nil ?_
   refine hK58 _ _ ?_
   refine wp_ret ?_
   refine ret1 rfl hd (ev_hit hN rfl) ⟨_, rfl, ?_⟩
   -- path 16F 19F
   exact ⟨congrArg (Value.int .i64) (by simp only [cmpI]; (repeat' split) <;> omega), rfl⟩

theorem scmpW_ret (l m : Lb) (v u : Value) (w : World) (hl2 : l.length ≤ 1000000000000) (hm2 : m.length ≤ 1000000000000) (hl : RdC w 0 w.heap.size 1 v l.length (l.map u16v)) (hm : RdC w 0 w.heap.size 1 u m.length (m.map u16v)) : Ret Try.prog 123 #[v, u] w (fun v' w' => Below w.heap.size w w' ∧ v' = .int .i64 (cmpG l m)) := by
 have hb := Below.refl w.heap.size w
 refine enter (N := 36) Try.func123 rfl rfl (by simp) fun a0 hN hd hA => ?_
 have s0 : a0.tmps.getD 0 undef = v := hA 0 (by simp)
 have s1 : a0.tmps.getD 1 undef = u := hA 1 (by simp)
 clear hA
 refine seq_any fun K59 hK59 => ?_
 refine one_reg ?_
 refine op_assign rfl ?_
 refine reg_nil ?_
 refine hK59 _ _ ?_
 refine seq_any fun K60 hK60 => ?_
 refine seq_any fun K61 hK61 => ?_
 refine one_reg ?_
 refine op_move (ev_base hN rfl s0) ?_
 refine op_len_rd Try.underlying54 (ev_hit hN rfl) hl ?_
 refine op_move rfl ?_
 refine reg_nil ?_
 refine hK61 _ _ ?_
 refine wp_block ?_
 refine loop_m (fun mz_ az_ w' => ∃ (i : Nat), mz_ = l.length - i ∧ (az_.tmps.getD 0 undef = v) ∧ (az_.tmps.getD 1 undef = u) ∧ (az_.tmps.getD 9 undef = v) ∧ (az_.tmps.getD 10 undef = (Value.int .i64 ((l.length : Nat) : Int))) ∧ (az_.tmps.getD 11 undef = (Value.int .i64 ((i : Nat) : Int))) ∧ (i ≤ l.length) ∧ (cmpG l m = cmpG (l.drop i) (m.drop i)) ∧ (Below w.heap.size w w') ∧ (w.heap.size ≤ w'.heap.size) ∧ (RdC w' 0 w.heap.size 1 v l.length (l.map u16v)) ∧ (RdC w' 0 w.heap.size 1 u m.length (m.map u16v))) _ hN hd ⟨0, rfl, (sl_base hN rfl s0), (sl_base hN rfl s1), (sl_hit hN rfl), (sl_hit hN rfl), (sl_hit hN rfl), Nat.zero_le _, rfl, hb, (Nat.le_refl _), hl, hm⟩ ?_
 rintro _ a62 w62 hN62 hd62 ⟨i, rfl, s62_0, s62_1, s62_9, s62_10, s62_11, hi, he, hb, zl_w62, hl, hm⟩
 have z_w62 := hb.size
 refine seq_any fun K63 hK63 => ?_
 refine one_reg ?_
 refine op_lss (ev_base hN62 rfl s62_11) (ev_base hN62 rfl s62_10) (fun c12 => ?_) (fun c12 => ?_)
 · -- 12T
  refine reg_nil ?_
  refine hK63 _ _ ?_
  refine seq_any fun K64 hK64 => ?_
  refine wp_cond_true (ev_hit hN62 rfl) ?_
  refine wp_skip ?_
  refine hK64 _ _ ?_
  refine seq_any fun K65 hK65 => ?_
  refine wp_block ?_
  refine seq_any fun K66 hK66 => ?_
  refine one_reg ?_
  refine op_move (ev_base hN62 rfl s62_11) ?_
  refine op_index_rd slt54 (ev_base hN62 rfl s62_9) hl (ev_base hN62 rfl s62_11) (by omega) (by omega) ?_
  intro b67 o68 h0b67 h1b67 hc69
  refine op_load1 (v := (Value.int .u16 ((l.getD i 0).toNat : Int))) one46 (ev_hit hN62 rfl) (by have := hc69 0 (Value.int .u16 ((l.getD i 0).toNat : Int)) (by decide) (el_u16 (i := i) (by omega) (by omega)); simpa using this) ?_
  refine op_assign (ev_hit hN62 rfl) ?_
  refine op_assign (ev_hit hN62 rfl) ?_
  refine reg_nil ?_
  refine hK66 _ _ ?_
  refine seq_any fun K70 hK70 => ?_
  refine seq_any fun K71 hK71 => ?_
  refine one_reg ?_
  refine op_move (ev_hit hN62 rfl) ?_
  refine op_move (ev_base hN62 rfl s62_1) ?_
  refine op_len_rd Try.underlying54 (ev_hit hN62 rfl) hm ?_
  refine op_geq (ev_hit hN62 rfl) (ev_hit hN62 rfl) (fun c19 => ?_) (fun c19 => ?_)
  · -- 19T
   refine reg_nil ?_
   refine hK71 _ _ ?_
   refine wp_cond_true (ev_hit hN62 rfl) ?_
   refine seq_any fun K72 hK72 => ?_
   refine one_reg ?_
   refine op_assign rfl ?_
   refine reg_nil ?_
   refine hK72 _ _ ?_
   refine wp_ret (then_ret (blk_ret (then_ret (then_ret (blk_ret (then_ret ( ?_)))))))
   refine ret1 rfl hd62 (ev_hit hN62 rfl) ⟨_, rfl, ?_⟩
   -- path 12T 19T
   exact ⟨hb, congrArg (Value.int .i64) (by rw [he, cmpG_gt (by omega) (by omega)])⟩
  · -- 19F
   refine reg_nil ?_
   refine hK71 _ _ ?_
   refine wp_cond_false (ev_hit hN62 rfl) ?_
   refine wp_skip ?_
   refine hK70 _ _ ?_
   refine seq_any fun K73 hK73 => ?_
   refine one_reg ?_
   refine op_move (ev_base hN62 rfl s62_1) ?_
   refine op_move (ev_hit hN62 rfl) ?_
   refine op_index_rd slt54 (ev_hit hN62 rfl) hm (ev_hit hN62 rfl) (by omega) (by omega) ?_
   intro b74 o75 h0b74 h1b74 hc76
   refine op_load1 (v := (Value.int .u16 ((m.getD i 0).toNat : Int))) one46 (ev_hit hN62 rfl) (by have := hc76 0 (Value.int .u16 ((m.getD i 0).toNat : Int)) (by decide) (el_u16 (i := i) (by omega) (by omega)); simpa using this) ?_
   refine op_assign (ev_hit hN62 rfl) ?_
   refine reg_nil ?_
   refine hK73 _ _ ?_
   refine seq_any fun K77 hK77 => ?_
   refine one_reg ?_
   refine op_move (ev_hit hN62 rfl) ?_
   refine op_move (ev_hit hN62 rfl) ?_
   refine op_fn (vs := [(Value.int .u16 ((l.getD i 0).toNat : Int)), (Value.int .u16 ((m.getD i 0).toNat : Int))]) ok140 ⟨(ev_hit hN62 rfl), ⟨(ev_hit hN62 rfl), trivial⟩⟩ (Ret.flip (cmp16_ret (l.getD i 0) (m.getD i 0) _)) ?_
   rintro _ _ ⟨rfl, rfl⟩
   refine op_assign (ev_hit hN62 rfl) ?_
   refine reg_nil ?_
   refine hK77 _ _ ?_
   refine seq_any fun K78 hK78 => ?_
   refine one_reg ?_
   refine op_move (ev_hit hN62 rfl) ?_
   refine op_neq (ev_hit hN62 rfl) rfl (fun c28 => ?_) (fun c28 => ?_)
   · -- 28T
    refine reg_nil ?_
    refine hK78 _ _ ?_
    refine wp_cond_true (ev_hit hN62 rfl) ?_
    refine seq_any fun K79 hK79 => ?_
    refine one_reg ?_
    refine op_move (ev_hit hN62 rfl) ?_
    refine op_assign (ev_hit hN62 rfl) ?_
    refine reg_nil ?_
    refine hK79 _ _ ?_
    refine wp_ret (blk_ret (then_ret (then_ret (blk_ret (then_ret ( ?_))))))
    refine ret1 rfl hd62 (ev_hit hN62 rfl) ⟨_, rfl, ?_⟩
    -- path 12T 19F 28T
    exact ⟨hb, congrArg (Value.int .i64) (by rw [he, cmpG_step (by omega) (by omega)]; simp only [cmpI] at c28 ⊢; (repeat' split) <;> (first | rfl | omega | (simp_all; done) | (exfalso; simp_all; omega)))⟩
   · -- 28F
    refine reg_nil ?_
    refine hK78 _ _ ?_
    refine wp_cond_false (ev_hit hN62 rfl) ?_
    refine wp_skip ?_
    refine hK65 _ _ ?_
    refine one_reg ?_
    refine op_add (ev_base hN62 rfl s62_11) rfl (add64 (by omega)) ?_
    refine op_move (ev_hit hN62 rfl) ?_
    refine reg_nil ?_
    -- round 12T 19F 28F
    exact loop_next _ hN62 hd62 ⟨i + 1, rfl, (sl_base hN62 rfl s62_0), (sl_base hN62 rfl s62_1), (sl_base hN62 rfl s62_9), (sl_base hN62 rfl s62_10), (sl_hit hN62 rfl).trans (congrArg (Value.int .i64) (by omega)), (by omega), (he.trans ((cmpG_step (by omega) (by omega)).trans (by simp only [cmpI] at c28; (repeat' split at c28) <;> (first | omega | (rw [if_neg (by omega), if_neg (by omega)]))))), hb, (by omega), hl, hm⟩ (by omega)
 · -- 12F
  refine reg_nil ?_
  refine hK63 _ _ ?_
  refine seq_any fun K80 hK80 => ?_
  refine wp_cond_false (ev_hit hN62 rfl) ?_
  refine wp_exit (then_exit (then_exit (blk_hit ?_)))
  refine hK60 _ _ ?_
  refine seq_any fun K81 hK81 => ?_
  refine seq_any fun K82 hK82 => ?_
  refine one_reg ?_
  refine op_move (ev_base hN62 rfl s62_0) ?_
  refine op_len_rd Try.underlying54 (ev_hit hN62 rfl) hl ?_
  refine op_move (ev_base hN62 rfl s62_1) ?_
  refine op_len_rd Try.underlying54 (ev_hit hN62 rfl) hm ?_
  refine op_lss (ev_hit hN62 rfl) (ev_hit hN62 rfl) (fun c35 => ?_) (fun c35 => ?_)
  · -- 35T
   refine reg_nil ?_
   refine hK82 _ _ ?_
   refine wp_cond_true (ev_hit hN62 rfl) ?_
   refine seq_any fun K83 hK83 => ?_
   refine one_reg ?_
   refine op_assign rfl ?_
   refine reg_nil ?_
   refine hK83 _ _ ?_
   refine wp_ret (then_ret ( ?_))
   refine ret1 rfl hd62 (ev_hit hN62 rfl) ⟨_, rfl, ?_⟩
   -- path 12F 35T
   exact ⟨hb, congrArg (Value.int .i64) (by rw [he, cmpG_lt (by omega) (by omega)])⟩
  · -- 35F
   refine reg_nil ?_
   refine hK82 _ _ ?_
   refine wp_cond_false (ev_hit hN62 rfl) ?_
   refine wp_skip ?_
   refine hK81 _ _ ?_
   refine seq_any fun K84 hK84 => ?_
   refine one_reg ?_
   refine op_assign rfl ?_
   refine reg_nil ?_
   refine hK84 _ _ ?_
   refine wp_ret ?_
   refine ret1 rfl hd62 (ev_hit hN62 rfl) ⟨_, rfl, ?_⟩
   -- path 12F 35F
   exact ⟨hb, congrArg (Value.int .i64) (by rw [he, cmpG_end (by omega) (by omega)])⟩

theorem lcmpW_ret (l m : Lb) (v u : Value) (w : World) (hl2 : l.length ≤ 1000000000000) (hm2 : m.length ≤ 1000000000000) (hl : RdC w 0 w.heap.size 1 v l.length (l.map u16v)) (hm : RdC w 0 w.heap.size 1 u m.length (m.map u16v)) : Ret Try.prog 98 #[v, u] w (fun v' w' => Below w.heap.size w w' ∧ v' = .int .i64 (cmpL l m)) := by
 have hb := Below.refl w.heap.size w
 refine enter (N := 15) Try.func98 rfl rfl (by simp) fun a0 hN hd hA => ?_
 have s0 : a0.tmps.getD 0 undef = v := hA 0 (by simp)
 have s1 : a0.tmps.getD 1 undef = u := hA 1 (by simp)
 clear hA
 refine seq_any fun K85 hK85 => ?_
 refine one_reg ?_
 refine op_assign rfl ?_
 refine reg_nil ?_
 refine hK85 _ _ ?_
 refine seq_any fun K86 hK86 => ?_
 refine one_reg ?_
 refine op_move (ev_base hN rfl s0) ?_
 refine op_len_rd Try.underlying54 (ev_hit hN rfl) hl ?_
 refine op_move (ev_base hN rfl s1) ?_
 refine op_len_rd Try.underlying54 (ev_hit hN rfl) hm ?_
 refine op_fn (vs := [(Value.int .i64 ((l.length : Nat) : Int)), (Value.int .i64 ((m.length : Nat) : Int))]) ok122 ⟨(ev_hit hN rfl), ⟨(ev_hit hN rfl), trivial⟩⟩ (Ret.flip (cmpCompare_int_ret ((l.length : Nat) : Int) ((m.length : Nat) : Int) _)) ?_
 rintro _ _ ⟨rfl, rfl⟩
 refine op_move (ev_base hN rfl s0) ?_
 refine op_move (ev_base hN rfl s1) ?_
 refine op_fn (vs := [v, u]) ok123 ⟨(ev_hit hN rfl), ⟨(ev_hit hN rfl), trivial⟩⟩ (scmpW_ret l m _ _ _ (by first | assumption | omega | (simp only [List.length_append, List.length_cons, List.length_nil, List.length_drop, List.length_take]; omega) | (dsimp only; omega) | decide | (simp [keyV, be8_len]; done)) (by first | assumption | omega | (simp only [List.length_append, List.length_cons, List.length_nil, List.length_drop, List.length_take]; omega) | (dsimp only; omega) | decide | (simp [keyV, be8_len]; done)) (show RdC w 0 w.heap.size 1 v l.length (l.map u16v) from by have hh : RdC w 0 w.heap.size 1 _ _ _ := (hl.mono (L' := 0) (B' := w.heap.size) (Nat.zero_le _) (by omega)); first | exact hh | exact hh.cast (by first | omega | (simp; try omega)) (by first | rfl | simp [u16v])) (show RdC w 0 w.heap.size 1 u m.length (m.map u16v) from by have hh : RdC w 0 w.heap.size 1 _ _ _ := (hm.mono (L' := 0) (B' := w.heap.size) (Nat.zero_le _) (by omega)); first | exact hh | exact hh.cast (by first | omega | (simp; try omega)) (by first | rfl | simp [u16v]))) ?_
 rintro _ w87 ⟨E88, rfl⟩
 have E88 := grown_of_below E88
 have z_w87 := E88.size
 have hl := hl.keep0 E88
 have hm := hm.keep0 E88
 have hb := below_step0 hb E88 hb.size
 refine op_bslice (e := 3) (pv := [(0, (Value.int .i64 (cmpI ((l.length : Nat) : Int) ((m.length : Nat) : Int)))), (1, (Value.int .i64 (cmpG l m)))]) (cs := [(Value.int .i64 (cmpI ((l.length : Nat) : Int) ((m.length : Nat) : Int))), (Value.int .i64 (cmpG l m))]) ⟨rfl, (ev_hit hN rfl), ⟨rfl, (ev_hit hN rfl), trivial⟩⟩ (by kernel_rfl) ?_
 intro w89 b90 lo_b90 hi_b90 hB92 E91
 have z_w89 := E91.size
 have hl := hl.keep0 E91
 have hm := hm.keep0 E91
 have hb := below_step0 hb E91 hb.size
 refine op_fn (vs := [(Value.slice (some ⟨b90, 0, none⟩) 2 2)]) ok121 ⟨(ev_hit hN rfl), trivial⟩ (Or_ret (cmpI ((l.length : Nat) : Int) ((m.length : Nat) : Int)) (cmpG l m) _ _ ((RdC.ofBx (sz := 1) (n := 2) hB92 rfl (by decide)).mono (Nat.zero_le _) (by have := hB92.lt; omega))) ?_
 rintro _ w93 ⟨E94, rfl⟩
 have E94 := grown_of_below E94
 have z_w93 := E94.size
 have hl := hl.keep0 E94
 have hm := hm.keep0 E94
 have hB92 := hB92.keep0 E94
 have hb := below_step0 hb E94 hb.size
 refine op_assign (ev_hit hN rfl) ?_
 refine reg_nil ?_
 refine hK86 _ _ ?_
 refine wp_ret ?_
 refine ret1 rfl hd (ev_hit hN rfl) ⟨_, rfl, ?_⟩
 -- path
 exact ⟨hb, congrArg (Value.int .i64) cmpL_or⟩

end Go.Proofs.Ytmhdbphpmgjpcaa

/- Walks, written by a program: what each function of the translation hands back. -/
namespace Go.Proofs.Ytmhdbphpmgjpcaa
open Go.Gx Go.RowKit
attribute [local irreducible] wpList wpStill Code.wp Calls

theorem hasS {base p : Nat} {la rv wv : Value} {lab : List UInt16} {stp : Int} {D : List RD} {Wr : List (List UInt8)} {dm : Bool} {p9 : List UInt8 → Bool} {w : World} (hbase : base ≤ w.heap.size) (hx : Bx w p 164 [la, .int .u64 stp, rv, wv, .bool dm]) (hLa : Own w base 46 1 la lab.length (lab.map u16v)) (hR : Own w base 169 2 rv D.length (D.flatMap cellsRd)) (hD : ∀ x9 ∈ D.map rdL, Own w base 46 1 x9.1 x9.2.length (x9.2.map u16v)) (hW : Own w base 9 1 wv Wr.length (Wr.map sv)) (h8 : lab.length ≤ 8 ∧ ∀ r ∈ D, r.lab.length ≤ 8) {g : Nat} {fs cs : List Value} (hokg : callOk Try.prog g = true) (hf : ∀ i, i < Wr.length → ∀ w1, Below w.heap.size w w1 → Ret Try.prog g (fs ++ [Value.string (bs (Wr.getD i []))] ++ cs).toArray w1 (fun v' w' => Below w1.heap.size w1 w' ∧ v' = .bool (p9 (Wr.getD i [])))) : Ret Try.prog 107 #[(ptr p 3), (Value.func (.func g) fs.toArray cs.toArray)] w (fun v' w' => Below w.heap.size w w' ∧ v' = .bool (Wr.any p9)) := by
 have hb := Below.refl w.heap.size w
 refine enter (N := 11) Try.func107 rfl rfl (by simp) fun a0 hN hd hA => ?_
 have s0 : a0.tmps.getD 0 undef = (ptr p 3) := hA 0 (by simp)
 have s1 : a0.tmps.getD 1 undef = (Value.func (.func g) fs.toArray cs.toArray) := hA 1 (by simp)
 clear hA
 refine seq_any fun K1 hK1 => ?_
 refine one_reg ?_
 refine op_assign rfl ?_
 refine reg_nil ?_
 refine hK1 _ _ ?_
 refine seq_any fun K2 hK2 => ?_
 refine one_reg ?_
 refine op_move (ev_base hN rfl s0) ?_
 refine op_nil (ev_hit hN rfl) ?_
 refine op_field fld162_0 (ev_hit hN rfl) ?_
 refine op_load1 (v := wv) one26 (ev_hit hN rfl) (hx.cell rfl) ?_
 refine op_move (ev_base hN rfl s1) ?_
 refine op_fn (vs := [wv, (Value.func (.func g) fs.toArray cs.toArray)]) ok124 ⟨(ev_hit hN rfl), ⟨(ev_hit hN rfl), trivial⟩⟩ (ContF_s (p := p9) (hW.rdw.mono (Nat.zero_le _) (by omega)) hokg (fun i hi w1 E => hf i hi w1 (below_step0 hb (grown_of_below E) hb.size))) ?_
 rintro _ w3 ⟨E4, rfl⟩
 have E4 := grown_of_below E4
 have z_w3 := E4.size
 have hx := hx.keep0 E4
 have hLa := hLa.keep0 E4
 have hR := hR.keep0 E4
 have hD : ∀ x9 ∈ (D.map rdL), Own w3 base 46 1 x9.1 x9.2.length (x9.2.map u16v) := fun x9 hx9 => (hD x9 hx9).keep0 E4
 have hW := hW.keep0 E4
 have hb := below_step0 hb E4 hb.size
 refine op_assign (ev_hit hN rfl) ?_
 refine reg_nil ?_
 refine hK2 _ _ ?_
 refine wp_ret ?_
 refine ret1 rfl hd (ev_hit hN rfl) ⟨_, rfl, ?_⟩
 -- path
 exact ⟨hb, rfl⟩

theorem hasR {base p : Nat} {la rv wv : Value} {lab : List UInt16} {stp : Int} {D : List RD} {Wr : List (List UInt8)} {dm : Bool} {p9 : RD → Bool} {w : World} (hbase : base ≤ w.heap.size) (hx : Bx w p 164 [la, .int .u64 stp, rv, wv, .bool dm]) (hLa : Own w base 46 1 la lab.length (lab.map u16v)) (hR : Own w base 169 2 rv D.length (D.flatMap cellsRd)) (hD : ∀ x9 ∈ D.map rdL, Own w base 46 1 x9.1 x9.2.length (x9.2.map u16v)) (hW : Own w base 9 1 wv Wr.length (Wr.map sv)) (h8 : lab.length ≤ 8 ∧ ∀ r ∈ D, r.lab.length ≤ 8) {g : Nat} {fs cs : List Value} (hokg : callOk Try.prog g = true) (hf : ∀ i, i < D.length → ∀ w1, Below w.heap.size w w1 → Ret Try.prog g (fs ++ [Value.agg #[.string (bs (D.getD i default).tab), (D.getD i default).la]] ++ cs).toArray w1 (fun v' w' => Below w1.heap.size w1 w' ∧ v' = .bool (p9 (D.getD i default)))) : Ret Try.prog 130 #[(ptr p 2), (Value.func (.func g) fs.toArray cs.toArray)] w (fun v' w' => Below w.heap.size w w' ∧ v' = .bool (D.any p9)) := by
 have hb := Below.refl w.heap.size w
 refine enter (N := 11) Try.func130 rfl rfl (by simp) fun a0 hN hd hA => ?_
 have s0 : a0.tmps.getD 0 undef = (ptr p 2) := hA 0 (by simp)
 have s1 : a0.tmps.getD 1 undef = (Value.func (.func g) fs.toArray cs.toArray) := hA 1 (by simp)
 clear hA
 refine seq_any fun K5 hK5 => ?_
 refine one_reg ?_
 refine op_assign rfl ?_
 refine reg_nil ?_
 refine hK5 _ _ ?_
 refine seq_any fun K6 hK6 => ?_
 refine one_reg ?_
 refine op_move (ev_base hN rfl s0) ?_
 refine op_nil (ev_hit hN rfl) ?_
 refine op_field fld160_0 (ev_hit hN rfl) ?_
 refine op_load1 (v := rv) one158 (ev_hit hN rfl) (hx.cell rfl) ?_
 refine op_move (ev_base hN rfl s1) ?_
 refine op_fn (vs := [rv, (Value.func (.func g) fs.toArray cs.toArray)]) ok126 ⟨(ev_hit hN rfl), ⟨(ev_hit hN rfl), trivial⟩⟩ (ContF_r (p := p9) (hR.rdw.mono (Nat.zero_le _) (by omega)) hokg (fun i hi w1 E => hf i hi w1 (below_step0 hb (grown_of_below E) hb.size))) ?_
 rintro _ w7 ⟨E8, rfl⟩
 have E8 := grown_of_below E8
 have z_w7 := E8.size
 have hx := hx.keep0 E8
 have hLa := hLa.keep0 E8
 have hR := hR.keep0 E8
 have hD : ∀ x9 ∈ (D.map rdL), Own w7 base 46 1 x9.1 x9.2.length (x9.2.map u16v) := fun x9 hx9 => (hD x9 hx9).keep0 E8
 have hW := hW.keep0 E8
 have hb := below_step0 hb E8 hb.size
 refine op_assign (ev_hit hN rfl) ?_
 refine reg_nil ?_
 refine hK6 _ _ ?_
 refine wp_ret ?_
 refine ret1 rfl hd (ev_hit hN rfl) ⟨_, rfl, ?_⟩
 -- path
 exact ⟨hb, rfl⟩

theorem writ1 {x y : List UInt8} {tb : Nat} {w : World} (hb9 : Bx w tb 9 [.string (bs x)]) : Ret Try.prog 142 #[(Value.string (bs y)), (ptr tb 0)] w (fun v' w' => Below w.heap.size w w' ∧ v' = .bool (decide (y = x))) := by
 have hb := Below.refl w.heap.size w
 refine enter (N := 7) Try.func142 rfl rfl (by simp) fun a0 hN hd hA => ?_
 have s0 : a0.tmps.getD 0 undef = (Value.string (bs y)) := hA 0 (by simp)
 have s1 : a0.tmps.getD 1 undef = (ptr tb 0) := hA 1 (by simp)
 clear hA
 refine seq_any fun K9 hK9 => ?_
 refine one_reg ?_
 refine op_assign rfl ?_
 refine reg_nil ?_
 refine hK9 _ _ ?_
 refine seq_any fun K10 hK10 => ?_
 refine one_reg ?_
 refine op_move (ev_base hN rfl s0) ?_
 refine op_load1 (v := (Value.string (bs x))) one9 (ev_base hN rfl s1) (hb9.cell rfl) ?_
 refine op_seql (ev_hit hN rfl) (ev_hit hN rfl) (fun c6 => ?_) (fun c6 => ?_)
 · -- 6T
  refine op_assign (ev_hit hN rfl) ?_
  refine reg_nil ?_
  refine hK10 _ _ ?_
  refine wp_ret ?_
  refine ret1 rfl hd (ev_hit hN rfl) ⟨_, rfl, ?_⟩
  -- path 6T
  exact ⟨hb, congrArg Value.bool (decide_eq_true c6).symm⟩
 · -- 6F
  refine op_assign (ev_hit hN rfl) ?_
  refine reg_nil ?_
  refine hK10 _ _ ?_
  refine wp_ret ?_
  refine ret1 rfl hd (ev_hit hN rfl) ⟨_, rfl, ?_⟩
  -- path 6F
  exact ⟨hb, congrArg Value.bool (decide_eq_false c6).symm⟩

theorem covers1 {x : List UInt8} {l : List UInt16} {lv : Value} {r : RD} {tb lb : Nat} {w : World} (hb9 : Bx w tb 9 [.string (bs x)]) (hb54 : Bx w lb 54 [lv]) (hl : RdC w 0 w.heap.size 1 lv l.length (l.map u16v)) (hr : RdC w 0 w.heap.size 1 r.la r.lab.length (r.lab.map u16v)) (hl8 : l.length ≤ 8) (hr8 : r.lab.length ≤ 8) : Ret Try.prog 131 #[(Value.agg #[(Value.string (bs r.tab)), r.la]), (ptr tb 0), (ptr lb 0)] w (fun v' w' => Below w.heap.size w w' ∧ v' = .bool (decide (r.tab = x) && flowsL l r.lab)) := by
 have hb := Below.refl w.heap.size w
 refine enter (N := 15) Try.func131 rfl rfl (by simp) fun a0 hN hd hA => ?_
 have s0 : a0.tmps.getD 0 undef = (Value.agg #[(Value.string (bs r.tab)), r.la]) := hA 0 (by simp)
 have s1 : a0.tmps.getD 1 undef = (ptr tb 0) := hA 1 (by simp)
 have s2 : a0.tmps.getD 2 undef = (ptr lb 0) := hA 2 (by simp)
 clear hA
 refine seq_any fun K11 hK11 => ?_
 refine one_reg ?_
 refine op_box (cs := [(Value.string (bs r.tab)), r.la]) (ev_base hN rfl s0) rfl ?_
 intro w12 b13 lo_b13 hi_b13 hB15 E14
 have z_w12 := E14.size
 have hb9 := hb9.keep0 E14
 have hb54 := hb54.keep0 E14
 have hl := hl.keep0 E14
 have hr := hr.keep0 E14
 have hb := below_step0 hb E14 hb.size
 refine op_assign rfl ?_
 refine reg_nil ?_
 refine hK11 _ _ ?_
 refine seq_any fun K16 hK16 => ?_
 refine one_reg ?_
 refine op_field fld169_0 (ev_hit hN rfl) ?_
 refine op_load1 (v := (Value.string (bs r.tab))) one9 (ev_hit hN rfl) (hB15.cell rfl) ?_
 refine op_load1 (v := (Value.string (bs x))) one9 (ev_base hN rfl s1) (hb9.cell rfl) ?_
 refine op_seql (ev_hit hN rfl) (ev_hit hN rfl) (fun c8 => ?_) (fun c8 => ?_)
 · -- 8T
  refine op_move (ev_hit hN rfl) ?_
  refine g_true (j := 4) (dj := 9) (b := true) rfl rfl rfl (ev_hit hN rfl) ?_
  refine op_load1 (v := lv) one54 (ev_base hN rfl s2) (hb54.cell rfl) ?_
  refine g_true (j := 4) (dj := 9) (b := true) rfl rfl rfl (ev_hit hN rfl) ?_
  refine op_field fld169_1 (ev_hit hN rfl) ?_
  refine g_true (j := 4) (dj := 9) (b := true) rfl rfl rfl (ev_hit hN rfl) ?_
  refine op_load1 (v := r.la) one54 (ev_hit hN rfl) (hB15.cell rfl) ?_
  refine g_true (j := 4) (dj := 9) (b := true) rfl rfl rfl (ev_hit hN rfl) ?_
  refine op_fn (vs := [lv, r.la]) ok106 ⟨(ev_hit hN rfl), ⟨(ev_hit hN rfl), trivial⟩⟩ (flowsW_ret l r.lab _ _ _ (by first | assumption | omega | (simp only [List.length_append, List.length_cons, List.length_nil, List.length_drop, List.length_take]; omega) | (dsimp only; omega) | decide | (simp [keyV, be8_len]; done)) (by first | assumption | omega | (simp only [List.length_append, List.length_cons, List.length_nil, List.length_drop, List.length_take]; omega) | (dsimp only; omega) | decide | (simp [keyV, be8_len]; done)) (show RdC w12 0 w12.heap.size 1 lv l.length (l.map u16v) from by have hh : RdC w12 0 w12.heap.size 1 _ _ _ := (hl.mono (L' := 0) (B' := w12.heap.size) (Nat.zero_le _) (by omega)); first | exact hh | exact hh.cast (by first | omega | (simp; try omega)) (by first | rfl | simp [u16v])) (show RdC w12 0 w12.heap.size 1 r.la r.lab.length (r.lab.map u16v) from by have hh : RdC w12 0 w12.heap.size 1 _ _ _ := (hr.mono (L' := 0) (B' := w12.heap.size) (Nat.zero_le _) (by omega)); first | exact hh | exact hh.cast (by first | omega | (simp; try omega)) (by first | rfl | simp [u16v]))) ?_
  rintro _ w17 ⟨E18, rfl⟩
  have E18 := grown_of_below E18
  have z_w17 := E18.size
  have hb9 := hb9.keep0 E18
  have hb54 := hb54.keep0 E18
  have hl := hl.keep0 E18
  have hr := hr.keep0 E18
  have hB15 := hB15.keep0 E18
  have hb := below_step0 hb E18 hb.size
  refine op_pick_t (ev_hit hN rfl) (ev_hit hN rfl) ?_
  refine op_assign (ev_hit hN rfl) ?_
  refine reg_nil ?_
  refine hK16 _ _ ?_
  refine wp_ret ?_
  refine ret1 rfl hd (ev_hit hN rfl) ⟨_, rfl, ?_⟩
  -- path 8T
  exact ⟨hb, congrArg Value.bool (by rw [decide_eq_true c8, Bool.true_and])⟩
 · -- 8F
  refine op_move (ev_hit hN rfl) ?_
  refine g_false (j := 4) (dj := 9) (b := true) rfl rfl rfl (ev_hit hN rfl) rfl rfl ?_
  refine g_false (j := 4) (dj := 9) (b := true) rfl rfl rfl (ev_hit hN rfl) rfl rfl ?_
  refine g_false (j := 4) (dj := 9) (b := true) rfl rfl rfl (ev_hit hN rfl) rfl rfl ?_
  refine g_false (j := 4) (dj := 9) (b := true) rfl rfl rfl (ev_hit hN rfl) rfl rfl ?_
  refine op_pick_f (ev_hit hN rfl) rfl ?_
  refine op_assign (ev_hit hN rfl) ?_
  refine reg_nil ?_
  refine hK16 _ _ ?_
  refine wp_ret ?_
  refine ret1 rfl hd (ev_hit hN rfl) ⟨_, rfl, ?_⟩
  -- path 8F
  exact ⟨hb, congrArg Value.bool (by rw [decide_eq_false c8, Bool.false_and])⟩

theorem writT {base p : Nat} {la rv wv : Value} {lab : List UInt16} {stp : Int} {D : List RD} {Wr : List (List UInt8)} {dm : Bool} {x : List UInt8} {w : World} (hbase : base ≤ w.heap.size) (hx : Bx w p 164 [la, .int .u64 stp, rv, wv, .bool dm]) (hLa : Own w base 46 1 la lab.length (lab.map u16v)) (hR : Own w base 169 2 rv D.length (D.flatMap cellsRd)) (hD : ∀ x9 ∈ D.map rdL, Own w base 46 1 x9.1 x9.2.length (x9.2.map u16v)) (hW : Own w base 9 1 wv Wr.length (Wr.map sv)) (h8 : lab.length ≤ 8 ∧ ∀ r ∈ D, r.lab.length ≤ 8) : Ret Try.prog 125 #[(ptr p 0), (Value.string (bs x))] w (fun v' w' => Below w.heap.size w w' ∧ v' = .bool (writB Wr x)) := by
 have hb := Below.refl w.heap.size w
 refine enter (N := 10) Try.func125 rfl rfl (by simp) fun a0 hN hd hA => ?_
 have s0 : a0.tmps.getD 0 undef = (ptr p 0) := hA 0 (by simp)
 have s1 : a0.tmps.getD 1 undef = (Value.string (bs x)) := hA 1 (by simp)
 clear hA
 refine seq_any fun K19 hK19 => ?_
 refine one_reg ?_
 refine op_box (cs := [(Value.string (bs x))]) (ev_base hN rfl s1) rfl ?_
 intro w20 b21 lo_b21 hi_b21 hB23 E22
 have ne_b21_wv : wv.ownBlock ≠ some b21 := fun hh => by have := (hW.lt _ hh).2; omega
 have z_w20 := E22.size
 have hx := hx.keep0 E22
 have hLa := hLa.keep0 E22
 have hR := hR.keep0 E22
 have hD : ∀ x9 ∈ (D.map rdL), Own w20 base 46 1 x9.1 x9.2.length (x9.2.map u16v) := fun x9 hx9 => (hD x9 hx9).keep0 E22
 have hW := hW.keep0 E22
 have hb := below_step0 hb E22 hb.size
 refine op_assign rfl ?_
 refine reg_nil ?_
 refine hK19 _ _ ?_
 refine seq_any fun K24 hK24 => ?_
 refine one_reg ?_
 refine op_move (ev_base hN rfl s0) ?_
 refine op_nil (ev_hit hN rfl) ?_
 refine op_field fld164_3 (ev_hit hN rfl) ?_
 refine op_mkfn (cv := [(ptr b21 0)]) ⟨(ev_hit hN rfl), trivial⟩ ?_
 refine op_fn (vs := [(ptr p 3), (Value.func (.func 142) #[] #[(ptr b21 0)])]) ok107 ⟨(ev_hit hN rfl), ⟨(ev_hit hN rfl), trivial⟩⟩ (hasS (by omega) hx hLa hR hD hW h8 (p9 := (fun y => decide (y = x))) (g := 142) (fs := []) (cs := [(ptr b21 0)]) ok142 (fun i hi w1 E => writ1 (hB23.keep0 (grown_of_below E)))) ?_
 rintro _ w25 ⟨E26, rfl⟩
 have E26 := grown_of_below E26
 have z_w25 := E26.size
 have hx := hx.keep0 E26
 have hLa := hLa.keep0 E26
 have hR := hR.keep0 E26
 have hD : ∀ x9 ∈ (D.map rdL), Own w25 base 46 1 x9.1 x9.2.length (x9.2.map u16v) := fun x9 hx9 => (hD x9 hx9).keep0 E26
 have hW := hW.keep0 E26
 have hB23 := hB23.keep0 E26
 have hb := below_step0 hb E26 hb.size
 refine op_assign (ev_hit hN rfl) ?_
 refine reg_nil ?_
 refine hK24 _ _ ?_
 refine wp_ret ?_
 refine ret1 rfl hd (ev_hit hN rfl) ⟨_, rfl, ?_⟩
 -- path
 exact ⟨hb, rfl⟩

theorem coversT {base p : Nat} {la rv wv : Value} {lab : List UInt16} {stp : Int} {D : List RD} {Wr : List (List UInt8)} {dm : Bool} {x : List UInt8} {l : List UInt16} {lv : Value} {w : World} (hbase : base ≤ w.heap.size) (hx : Bx w p 164 [la, .int .u64 stp, rv, wv, .bool dm]) (hLa : Own w base 46 1 la lab.length (lab.map u16v)) (hR : Own w base 169 2 rv D.length (D.flatMap cellsRd)) (hD : ∀ x9 ∈ D.map rdL, Own w base 46 1 x9.1 x9.2.length (x9.2.map u16v)) (hW : Own w base 9 1 wv Wr.length (Wr.map sv)) (h8 : lab.length ≤ 8 ∧ ∀ r ∈ D, r.lab.length ≤ 8) (hl : RdC w 0 w.heap.size 1 lv l.length (l.map u16v)) (hl8 : l.length ≤ 8) : Ret Try.prog 109 #[(ptr p 0), (Value.string (bs x)), lv] w (fun v' w' => Below w.heap.size w w' ∧ v' = .bool (covB (D.map rOf) x l)) := by
 have hb := Below.refl w.heap.size w
 refine enter (N := 12) Try.func109 rfl rfl (by simp) fun a0 hN hd hA => ?_
 have s0 : a0.tmps.getD 0 undef = (ptr p 0) := hA 0 (by simp)
 have s1 : a0.tmps.getD 1 undef = (Value.string (bs x)) := hA 1 (by simp)
 have s2 : a0.tmps.getD 2 undef = lv := hA 2 (by simp)
 clear hA
 refine seq_any fun K27 hK27 => ?_
 refine one_reg ?_
 refine op_box (cs := [(Value.string (bs x))]) (ev_base hN rfl s1) rfl ?_
 intro w28 b29 lo_b29 hi_b29 hB31 E30
 have ne_b29_wv : wv.ownBlock ≠ some b29 := fun hh => by have := (hW.lt _ hh).2; omega
 have z_w28 := E30.size
 have hl := hl.keep0 E30
 have hx := hx.keep0 E30
 have hLa := hLa.keep0 E30
 have hR := hR.keep0 E30
 have hD : ∀ x9 ∈ (D.map rdL), Own w28 base 46 1 x9.1 x9.2.length (x9.2.map u16v) := fun x9 hx9 => (hD x9 hx9).keep0 E30
 have hW := hW.keep0 E30
 have hb := below_step0 hb E30 hb.size
 refine op_box (cs := [lv]) (ev_base hN rfl s2) (RdC.cells hl) ?_
 intro w32 b33 lo_b33 hi_b33 hB35 E34
 have z_w32 := E34.size
 have hl := hl.keep0 E34
 have hx := hx.keep0 E34
 have hLa := hLa.keep0 E34
 have hR := hR.keep0 E34
 have hD : ∀ x9 ∈ (D.map rdL), Own w32 base 46 1 x9.1 x9.2.length (x9.2.map u16v) := fun x9 hx9 => (hD x9 hx9).keep0 E34
 have hW := hW.keep0 E34
 have hB31 := hB31.keep0 E34
 have hb := below_step0 hb E34 hb.size
 refine op_assign rfl ?_
 refine reg_nil ?_
 refine hK27 _ _ ?_
 refine seq_any fun K36 hK36 => ?_
 refine one_reg ?_
 refine op_move (ev_base hN rfl s0) ?_
 refine op_nil (ev_hit hN rfl) ?_
 refine op_field fld164_2 (ev_hit hN rfl) ?_
 refine op_mkfn (cv := [(ptr b29 0), (ptr b33 0)]) ⟨(ev_hit hN rfl), ⟨(ev_hit hN rfl), trivial⟩⟩ ?_
 refine op_fn (vs := [(ptr p 2), (Value.func (.func 131) #[] #[(ptr b29 0), (ptr b33 0)])]) ok130 ⟨(ev_hit hN rfl), ⟨(ev_hit hN rfl), trivial⟩⟩ (hasR (by omega) hx hLa hR hD hW h8 (p9 := (fun r => decide (r.tab = x) && flowsL l r.lab)) (g := 131) (fs := []) (cs := [(ptr b29 0), (ptr b33 0)]) ok131 (fun i hi w1 E => covers1 (r := D.getD i default) (hB31.keep0 (grown_of_below E)) (hB35.keep0 (grown_of_below E)) ((hl.keep0 (grown_of_below E)).mono (Nat.zero_le _) (by have := E.size; omega)) (((hD _ (List.mem_map.2 ⟨_, getD_mem hi, rfl⟩)).keep0 (grown_of_below E)).rdw.mono (Nat.zero_le _) (Nat.le_refl _)) (by omega) (h8.2 _ (getD_mem hi)))) ?_
 rintro _ w37 ⟨E38, rfl⟩
 have E38 := grown_of_below E38
 have z_w37 := E38.size
 have hl := hl.keep0 E38
 have hx := hx.keep0 E38
 have hLa := hLa.keep0 E38
 have hR := hR.keep0 E38
 have hD : ∀ x9 ∈ (D.map rdL), Own w37 base 46 1 x9.1 x9.2.length (x9.2.map u16v) := fun x9 hx9 => (hD x9 hx9).keep0 E38
 have hW := hW.keep0 E38
 have hB31 := hB31.keep0 E38
 have hB35 := hB35.keep0 E38
 have hb := below_step0 hb E38 hb.size
 refine op_assign (ev_hit hN rfl) ?_
 refine reg_nil ?_
 refine hK36 _ _ ?_
 refine wp_ret ?_
 refine ret1 rfl hd (ev_hit hN rfl) ⟨_, rfl, ?_⟩
 -- path
 exact ⟨hb, congrArg Value.bool covB_map⟩

end Go.Proofs.Ytmhdbphpmgjpcaa

/- Walks, written by a program: what each function of the translation hands back. -/
namespace Go.Proofs.Ytmhdbphpmgjpcaa
open Go.Gx Go.RowKit
attribute [local irreducible] wpList wpStill Code.wp Calls

theorem standsT {base p : Nat} {la rv wv : Value} {lab : List UInt16} {stp : Int} {D : List RD} {Wr : List (List UInt8)} {dm : Bool} {Rs : List (List UInt8)} {rsv : Value} {x : List UInt8} {l : List UInt16} {lv : Value} {w : World} (hbase : base ≤ w.heap.size) (hx : Bx w p 164 [la, .int .u64 stp, rv, wv, .bool dm]) (hLa : Own w base 46 1 la lab.length (lab.map u16v)) (hR : Own w base 169 2 rv D.length (D.flatMap cellsRd)) (hD : ∀ x9 ∈ D.map rdL, Own w base 46 1 x9.1 x9.2.length (x9.2.map u16v)) (hW : Own w base 9 1 wv Wr.length (Wr.map sv)) (h8 : lab.length ≤ 8 ∧ ∀ r ∈ D, r.lab.length ≤ 8) (hRs : RdC w 0 w.heap.size 1 rsv Rs.length (Rs.map sv)) (hl : RdC w 0 w.heap.size 1 lv l.length (l.map u16v)) (hl8 : l.length ≤ 8) : Ret Try.prog 99 #[(ptr p 0), rsv, (Value.string (bs x)), lv] w (fun v' w' => Below w.heap.size w w' ∧ v' = .bool (standB ⟨lab, stp, D.map rOf, Wr, dm⟩ Rs x l)) := by
 have hb := Below.refl w.heap.size w
 refine enter (N := 28) Try.func99 rfl rfl (by simp) fun a0 hN hd hA => ?_
 have s0 : a0.tmps.getD 0 undef = (ptr p 0) := hA 0 (by simp)
 have s1 : a0.tmps.getD 1 undef = rsv := hA 1 (by simp)
 have s2 : a0.tmps.getD 2 undef = (Value.string (bs x)) := hA 2 (by simp)
 have s3 : a0.tmps.getD 3 undef = lv := hA 3 (by simp)
 clear hA
 refine seq_any fun K1 hK1 => ?_
 refine one_reg ?_
 refine op_assign rfl ?_
 refine reg_nil ?_
 refine hK1 _ _ ?_
 refine seq_any fun K2 hK2 => ?_
 refine one_reg ?_
 refine op_move (ev_base hN rfl s1) ?_
 refine op_move (ev_base hN rfl s0) ?_
 refine op_mkfn1 (fv := [(ptr p 0)]) (cv := []) ⟨(ev_hit hN rfl), trivial⟩ trivial ?_
 refine op_fn (vs := [rsv, (Value.func (.func 125) #[(ptr p 0)] #[])]) ok124 ⟨(ev_hit hN rfl), ⟨(ev_hit hN rfl), trivial⟩⟩ (ContF_s (g := 125) (fs := [(ptr p 0)]) (cs := []) (p := (writB Wr)) (hRs.mono (Nat.zero_le _) (by omega)) ok125 (fun i hi w1 E => writT (by have := E.size; omega) (hx.keep0 (grown_of_below E)) (hLa.keep0 (grown_of_below E)) (hR.keep0 (grown_of_below E)) (fun x9 hx9 => (hD x9 hx9).keep0 (grown_of_below E)) (hW.keep0 (grown_of_below E)) h8)) ?_
 rintro _ w3 ⟨E4, rfl⟩
 have E4 := grown_of_below E4
 have z_w3 := E4.size
 have hRs := hRs.keep0 E4
 have hl := hl.keep0 E4
 have hx := hx.keep0 E4
 have hLa := hLa.keep0 E4
 have hR := hR.keep0 E4
 have hD : ∀ x9 ∈ (D.map rdL), Own w3 base 46 1 x9.1 x9.2.length (x9.2.map u16v) := fun x9 hx9 => (hD x9 hx9).keep0 E4
 have hW := hW.keep0 E4
 have hb := below_step0 hb E4 hb.size
 rcases Bool.eq_false_or_eq_true ((Rs.any (writB Wr))) with c12 | c12
 · -- 12T
  rw [c12]
  refine op_move (ev_hit hN rfl) ?_
  refine g_false (j := 4) (dj := 13) (b := false) rfl rfl rfl (ev_hit hN rfl) rfl rfl ?_
  refine g_false (j := 4) (dj := 13) (b := false) rfl rfl rfl (ev_hit hN rfl) rfl rfl ?_
  refine g_false (j := 4) (dj := 13) (b := false) rfl rfl rfl (ev_hit hN rfl) rfl rfl ?_
  refine g_undef (j := 7) (dj := 16) (b := true) rfl rfl rfl (ev_hit hN rfl) rfl ?_
  refine g_undef (j := 7) (dj := 16) (b := true) rfl rfl rfl (ev_hit hN rfl) rfl ?_
  refine g_undef (j := 7) (dj := 16) (b := true) rfl rfl rfl (ev_hit hN rfl) rfl ?_
  refine g_undef (j := 7) (dj := 16) (b := true) rfl rfl rfl (ev_hit hN rfl) rfl ?_
  refine g_undef (j := 11) (dj := 20) (b := false) rfl rfl rfl (ev_hit hN rfl) rfl ?_
  refine g_undef (j := 11) (dj := 20) (b := false) rfl rfl rfl (ev_hit hN rfl) rfl ?_
  refine g_undef (j := 11) (dj := 20) (b := false) rfl rfl rfl (ev_hit hN rfl) rfl ?_
  refine g_undef (j := 11) (dj := 20) (b := false) rfl rfl rfl (ev_hit hN rfl) rfl ?_
  refine g_undef (j := 7) (dj := 16) (b := true) rfl rfl rfl (ev_hit hN rfl) rfl ?_
  refine g_false (j := 4) (dj := 13) (b := false) rfl rfl rfl (ev_hit hN rfl) rfl rfl ?_
  refine op_pick_t (ev_hit hN rfl) rfl ?_
  refine op_assign (ev_hit hN rfl) ?_
  refine reg_nil ?_
  refine hK2 _ _ ?_
  refine wp_ret ?_
  refine ret1 rfl hd (ev_hit hN rfl) ⟨_, rfl, ?_⟩
  -- path 12T
  exact ⟨hb, congrArg Value.bool (by unfold standB; rw [c12]; rfl)⟩
 · -- 12F
  rw [c12]
  refine op_move (ev_hit hN rfl) ?_
  refine g_true (j := 4) (dj := 13) (b := false) rfl rfl rfl (ev_hit hN rfl) ?_
  refine op_move (ev_base hN rfl s2) ?_
  refine g_true (j := 4) (dj := 13) (b := false) rfl rfl rfl (ev_hit hN rfl) ?_
  refine op_sneq (ev_hit hN rfl) rfl (fun c15 => ?_) (fun c15 => ?_)
  · -- 15T
   refine g_true (j := 4) (dj := 13) (b := false) rfl rfl rfl (ev_hit hN rfl) ?_
   refine op_move (ev_hit hN rfl) ?_
   refine g_true (j := 7) (dj := 16) (b := true) rfl rfl rfl (ev_hit hN rfl) ?_
   refine op_move (ev_base hN rfl s0) ?_
   refine g_true (j := 7) (dj := 16) (b := true) rfl rfl rfl (ev_hit hN rfl) ?_
   refine op_move (ev_base hN rfl s2) ?_
   refine g_true (j := 7) (dj := 16) (b := true) rfl rfl rfl (ev_hit hN rfl) ?_
   refine op_fn (vs := [(ptr p 0), (Value.string (bs x))]) ok125 ⟨(ev_hit hN rfl), ⟨(ev_hit hN rfl), trivial⟩⟩ (writT (by omega) hx hLa hR hD hW h8) ?_
   rintro _ w5 ⟨E6, rfl⟩
   have E6 := grown_of_below E6
   have z_w5 := E6.size
   have hRs := hRs.keep0 E6
   have hl := hl.keep0 E6
   have hx := hx.keep0 E6
   have hLa := hLa.keep0 E6
   have hR := hR.keep0 E6
   have hD : ∀ x9 ∈ (D.map rdL), Own w5 base 46 1 x9.1 x9.2.length (x9.2.map u16v) := fun x9 hx9 => (hD x9 hx9).keep0 E6
   have hW := hW.keep0 E6
   have hb := below_step0 hb E6 hb.size
   rcases Bool.eq_false_or_eq_true ((writB Wr x)) with c19 | c19
   · -- 19T
    rw [c19]
    refine g_true (j := 7) (dj := 16) (b := true) rfl rfl rfl (ev_hit hN rfl) ?_
    refine op_move (ev_hit hN rfl) ?_
    refine g_false (j := 11) (dj := 20) (b := false) rfl rfl rfl (ev_hit hN rfl) rfl rfl ?_
    refine g_false (j := 11) (dj := 20) (b := false) rfl rfl rfl (ev_hit hN rfl) rfl rfl ?_
    refine g_false (j := 11) (dj := 20) (b := false) rfl rfl rfl (ev_hit hN rfl) rfl rfl ?_
    refine g_false (j := 11) (dj := 20) (b := false) rfl rfl rfl (ev_hit hN rfl) rfl rfl ?_
    refine g_true (j := 7) (dj := 16) (b := true) rfl rfl rfl (ev_hit hN rfl) ?_
    refine op_pick_t (ev_hit hN rfl) rfl ?_
    refine g_true (j := 4) (dj := 13) (b := false) rfl rfl rfl (ev_hit hN rfl) ?_
    refine op_pick_t (ev_hit hN rfl) (ev_hit hN rfl) ?_
    refine op_pick_f (ev_hit hN rfl) (ev_hit hN rfl) ?_
    refine op_assign (ev_hit hN rfl) ?_
    refine reg_nil ?_
    refine hK2 _ _ ?_
    refine wp_ret ?_
    refine ret1 rfl hd (ev_hit hN rfl) ⟨_, rfl, ?_⟩
    -- path 12F 15T 19T
    exact ⟨hb, congrArg Value.bool (by unfold standB; rw [c12, decide_eq_true c15, c19]; rfl)⟩
   · -- 19F
    rw [c19]
    refine g_true (j := 7) (dj := 16) (b := true) rfl rfl rfl (ev_hit hN rfl) ?_
    refine op_move (ev_hit hN rfl) ?_
    refine g_true (j := 11) (dj := 20) (b := false) rfl rfl rfl (ev_hit hN rfl) ?_
    refine op_move (ev_base hN rfl s0) ?_
    refine g_true (j := 11) (dj := 20) (b := false) rfl rfl rfl (ev_hit hN rfl) ?_
    refine op_move (ev_base hN rfl s2) ?_
    refine g_true (j := 11) (dj := 20) (b := false) rfl rfl rfl (ev_hit hN rfl) ?_
    refine op_move (ev_base hN rfl s3) ?_
    refine g_true (j := 11) (dj := 20) (b := false) rfl rfl rfl (ev_hit hN rfl) ?_
    refine op_fn (vs := [(ptr p 0), (Value.string (bs x)), lv]) ok109 ⟨(ev_hit hN rfl), ⟨(ev_hit hN rfl), ⟨(ev_hit hN rfl), trivial⟩⟩⟩ (coversT (by omega) hx hLa hR hD hW h8 (hl.mono (Nat.zero_le _) (by omega)) (by omega)) ?_
    rintro _ w7 ⟨E8, rfl⟩
    have E8 := grown_of_below E8
    have z_w7 := E8.size
    have hRs := hRs.keep0 E8
    have hl := hl.keep0 E8
    have hx := hx.keep0 E8
    have hLa := hLa.keep0 E8
    have hR := hR.keep0 E8
    have hD : ∀ x9 ∈ (D.map rdL), Own w7 base 46 1 x9.1 x9.2.length (x9.2.map u16v) := fun x9 hx9 => (hD x9 hx9).keep0 E8
    have hW := hW.keep0 E8
    have hb := below_step0 hb E8 hb.size
    refine g_true (j := 7) (dj := 16) (b := true) rfl rfl rfl (ev_hit hN rfl) ?_
    refine op_pick_f (ev_hit hN rfl) (ev_hit hN rfl) ?_
    refine g_true (j := 4) (dj := 13) (b := false) rfl rfl rfl (ev_hit hN rfl) ?_
    refine op_pick_t (ev_hit hN rfl) (ev_hit hN rfl) ?_
    refine op_pick_f (ev_hit hN rfl) (ev_hit hN rfl) ?_
    refine op_assign (ev_hit hN rfl) ?_
    refine reg_nil ?_
    refine hK2 _ _ ?_
    refine wp_ret ?_
    refine ret1 rfl hd (ev_hit hN rfl) ⟨_, rfl, ?_⟩
    -- path 12F 15T 19F
    exact ⟨hb, congrArg Value.bool (by unfold standB; rw [c12, decide_eq_true c15, c19]; rfl)⟩
  · -- 15F
   refine g_true (j := 4) (dj := 13) (b := false) rfl rfl rfl (ev_hit hN rfl) ?_
   refine op_move (ev_hit hN rfl) ?_
   refine g_false (j := 7) (dj := 16) (b := true) rfl rfl rfl (ev_hit hN rfl) rfl rfl ?_
   refine g_false (j := 7) (dj := 16) (b := true) rfl rfl rfl (ev_hit hN rfl) rfl rfl ?_
   refine g_false (j := 7) (dj := 16) (b := true) rfl rfl rfl (ev_hit hN rfl) rfl rfl ?_
   refine g_false (j := 7) (dj := 16) (b := true) rfl rfl rfl (ev_hit hN rfl) rfl rfl ?_
   refine g_undef (j := 11) (dj := 20) (b := false) rfl rfl rfl (ev_hit hN rfl) rfl ?_
   refine g_undef (j := 11) (dj := 20) (b := false) rfl rfl rfl (ev_hit hN rfl) rfl ?_
   refine g_undef (j := 11) (dj := 20) (b := false) rfl rfl rfl (ev_hit hN rfl) rfl ?_
   refine g_undef (j := 11) (dj := 20) (b := false) rfl rfl rfl (ev_hit hN rfl) rfl ?_
   refine g_false (j := 7) (dj := 16) (b := true) rfl rfl rfl (ev_hit hN rfl) rfl rfl ?_
   refine g_true (j := 4) (dj := 13) (b := false) rfl rfl rfl (ev_hit hN rfl) ?_
   refine op_pick_f (ev_hit hN rfl) rfl ?_
   refine op_pick_f (ev_hit hN rfl) (ev_hit hN rfl) ?_
   refine op_assign (ev_hit hN rfl) ?_
   refine reg_nil ?_
   refine hK2 _ _ ?_
   refine wp_ret ?_
   refine ret1 rfl hd (ev_hit hN rfl) ⟨_, rfl, ?_⟩
   -- path 12F 15F
   exact ⟨hb, congrArg Value.bool (by unfold standB; rw [c12, decide_eq_false (fun h => h c15)]; rfl)⟩

end Go.Proofs.Ytmhdbphpmgjpcaa

/- Walks, written by a program: what each function of the translation hands back. -/
namespace Go.Proofs.Ytmhdbphpmgjpcaa
open Go.Gx Go.RowKit
attribute [local irreducible] wpList wpStill Code.wp Calls

theorem equalL {l m : List UInt16} {v u : Value} {w : World} (hl : RdC w 0 w.heap.size 1 v l.length (l.map u16v)) (hm : RdC w 0 w.heap.size 1 u m.length (m.map u16v)) : Ret Try.prog 102 #[v, u] w (fun v' w' => Below w.heap.size w w' ∧ v' = .bool (decide (l = m))) := by
 have hlm := rd_len hl
 have hmm := rd_len hm
 have hb := Below.refl w.heap.size w
 refine enter (N := 26) Try.func102 rfl rfl (by simp) fun a0 hN hd hA => ?_
 have s0 : a0.tmps.getD 0 undef = v := hA 0 (by simp)
 have s1 : a0.tmps.getD 1 undef = u := hA 1 (by simp)
 clear hA
 refine seq_any fun K1 hK1 => ?_
 refine one_reg ?_
 refine op_assign rfl ?_
 refine reg_nil ?_
 refine hK1 _ _ ?_
 refine seq_any fun K2 hK2 => ?_
 refine seq_any fun K3 hK3 => ?_
 refine one_reg ?_
 refine op_move (ev_base hN rfl s0) ?_
 refine op_len_rd Try.underlying54 (ev_hit hN rfl) hl ?_
 refine op_move (ev_base hN rfl s1) ?_
 refine op_len_rd Try.underlying54 (ev_hit hN rfl) hm ?_
 refine op_neq (ev_hit hN rfl) (ev_hit hN rfl) (fun c10 => ?_) (fun c10 => ?_)
 · -- 10T
  refine reg_nil ?_
  refine hK3 _ _ ?_
  refine wp_cond_true (ev_hit hN rfl) ?_
  refine seq_any fun K4 hK4 => ?_
  refine one_reg ?_
  refine op_assign rfl ?_
  refine reg_nil ?_
  refine hK4 _ _ ?_
  refine wp_ret (then_ret ( ?_))
  refine ret1 rfl hd (ev_hit hN rfl) ⟨_, rfl, ?_⟩
  -- path 10T
  exact ⟨hb, congrArg Value.bool (decide_eq_false (fun h => by rw [h] at c10; exact c10 rfl)).symm⟩
 · -- 10F
  refine reg_nil ?_
  refine hK3 _ _ ?_
  refine wp_cond_false (ev_hit hN rfl) ?_
  refine wp_skip ?_
  refine hK2 _ _ ?_
  refine seq_any fun K5 hK5 => ?_
  refine seq_any fun K6 hK6 => ?_
  refine one_reg ?_
  refine op_move (ev_base hN rfl s0) ?_
  refine op_len_rd Try.underlying54 (ev_hit hN rfl) hl ?_
  refine op_move rfl ?_
  refine reg_nil ?_
  refine hK6 _ _ ?_
  refine wp_block ?_
  refine loop_m (fun mz_ az_ w' => ∃ (i : Nat), mz_ = l.length - i ∧ (az_.tmps.getD 0 undef = v) ∧ (az_.tmps.getD 1 undef = u) ∧ (az_.tmps.getD 12 undef = (Value.int .i64 ((l.length : Nat) : Int))) ∧ (az_.tmps.getD 13 undef = (Value.int .i64 ((i : Nat) : Int))) ∧ (i ≤ l.length) ∧ (l.length = m.length) ∧ (l.take i = m.take i) ∧ (Below w.heap.size w w') ∧ (w.heap.size ≤ w'.heap.size) ∧ (RdC w' 0 w.heap.size 1 v l.length (l.map u16v)) ∧ (RdC w' 0 w.heap.size 1 u m.length (m.map u16v))) _ hN hd ⟨0, rfl, (sl_base hN rfl s0), (sl_base hN rfl s1), (sl_hit hN rfl), (sl_hit hN rfl), (Nat.zero_le _), (by omega), rfl, hb, (Nat.le_refl _), hl, hm⟩ ?_
  rintro _ a7 w7 hN7 hd7 ⟨i, rfl, s7_0, s7_1, s7_12, s7_13, hi, hlen, heq, hb, zl_w7, hl, hm⟩
  have z_w7 := hb.size
  refine seq_any fun K8 hK8 => ?_
  refine one_reg ?_
  refine op_lss (ev_base hN7 rfl s7_13) (ev_base hN7 rfl s7_12) (fun c14 => ?_) (fun c14 => ?_)
  · -- 14T
   refine reg_nil ?_
   refine hK8 _ _ ?_
   refine seq_any fun K9 hK9 => ?_
   refine wp_cond_true (ev_hit hN7 rfl) ?_
   refine wp_skip ?_
   refine hK9 _ _ ?_
   refine seq_any fun K10 hK10 => ?_
   refine wp_block ?_
   refine seq_any fun K11 hK11 => ?_
   refine one_reg ?_
   refine op_move (ev_base hN7 rfl s7_13) ?_
   refine op_assign (ev_hit hN7 rfl) ?_
   refine reg_nil ?_
   refine hK11 _ _ ?_
   refine seq_any fun K12 hK12 => ?_
   refine reg_still mixed (by kernel_rfl) ?_
   intro w14 E13
   have z_w14 := E13.size
   have hl := hl.keep0 E13
   have hm := hm.keep0 E13
   have hb := below_step0 hb E13 hb.size
   refine st_step rfl (fun _ h9 => op_move (ev_base hN7 rfl s7_0) h9) ?_
   refine st_step rfl (fun _ h9 => op_move (ev_hit hN7 rfl) h9) ?_
   refine st_index_rd slt54 (ev_hit hN7 rfl) hl (ev_hit hN7 rfl) (by omega) (by omega) ?_
   intro b15 o16 h0b15 h1b15 hc17
   refine st_step rfl (fun _ h9 => op_load1 (v := (Value.int .u16 ((l.getD i 0).toNat : Int))) one46 (ev_hit hN7 rfl) (by have := hc17 0 (Value.int .u16 ((l.getD i 0).toNat : Int)) (by decide) (el_u16 (i := i) (by omega) (by omega)); simpa using this) h9) ?_
   refine st_step rfl (fun _ h9 => op_move (ev_base hN7 rfl s7_1) h9) ?_
   refine st_step rfl (fun _ h9 => op_move (ev_hit hN7 rfl) h9) ?_
   refine st_index_rd slt54 (ev_hit hN7 rfl) hm (ev_hit hN7 rfl) (by omega) (by omega) ?_
   intro b18 o19 h0b18 h1b18 hc20
   refine st_step rfl (fun _ h9 => op_load1 (v := (Value.int .u16 ((m.getD i 0).toNat : Int))) one46 (ev_hit hN7 rfl) (by have := hc20 0 (Value.int .u16 ((m.getD i 0).toNat : Int)) (by decide) (el_u16 (i := i) (by omega) (by omega)); simpa using this) h9) ?_
   refine st_step rfl (fun _ h9 => op_cmp (b := (decide (((l.getD i 0).toNat : Int) ≠ ((m.getD i 0).toNat : Int)))) (ev_hit hN7 rfl) (ev_hit hN7 rfl) (b_neq rfl) h9) ?_
   refine st_nil ?_
   refine hK12 _ _ ?_
   refine wp_cond_split (ev_hit hN7 rfl) (fun c24 => ?_) (fun c24 => ?_)
   · -- 24T
    have c24 := of_decide_eq_true c24
    refine seq_any fun K21 hK21 => ?_
    refine one_reg ?_
    refine op_assign rfl ?_
    refine reg_nil ?_
    refine hK21 _ _ ?_
    refine wp_ret (blk_ret (then_ret (then_ret (blk_ret (then_ret ( ?_))))))
    refine ret1 rfl hd7 (ev_hit hN7 rfl) ⟨_, rfl, ?_⟩
    -- path 10F 14T 24T
    exact ⟨hb, congrArg Value.bool (decide_eq_false (fun h => by rw [h] at c24; exact c24 rfl)).symm⟩
   · -- 24F
    have c24 := of_decide_eq_false c24
    refine wp_skip ?_
    refine hK10 _ _ ?_
    refine one_reg ?_
    refine op_add (ev_base hN7 rfl s7_13) rfl (add64 (by omega)) ?_
    refine op_move (ev_hit hN7 rfl) ?_
    refine reg_nil ?_
    -- round 10F 14T 24F
    exact loop_next _ hN7 hd7 ⟨(i + 1), rfl, (sl_base hN7 rfl s7_0), (sl_base hN7 rfl s7_1), (sl_base hN7 rfl s7_12), (sl_hit hN7 rfl).trans (congrArg (Value.int .i64) (by omega)), (by omega), hlen, (by rw [takeT (d := 0) (by omega), takeT (d := 0) (by omega), heq, eq_u16 (Decidable.not_not.1 c24)]), hb, (by omega), hl, hm⟩ (by omega)
  · -- 14F
   refine reg_nil ?_
   refine hK8 _ _ ?_
   refine seq_any fun K22 hK22 => ?_
   refine wp_cond_false (ev_hit hN7 rfl) ?_
   refine wp_exit (then_exit (then_exit (blk_hit ?_)))
   refine hK5 _ _ ?_
   refine seq_any fun K23 hK23 => ?_
   refine one_reg ?_
   refine op_assign rfl ?_
   refine reg_nil ?_
   refine hK23 _ _ ?_
   refine wp_ret ?_
   refine ret1 rfl hd7 (ev_hit hN7 rfl) ⟨_, rfl, ?_⟩
   -- path 10F 14F
   exact ⟨hb, congrArg Value.bool (decide_eq_true (by rw [List.take_of_length_le (by omega), List.take_of_length_le (by omega)] at heq; exact heq)).symm⟩

theorem ask2 {x y : List UInt8} {l m : List UInt16} {v u : Value} {w : World} (hl : RdC w 0 w.heap.size 1 v l.length (l.map u16v)) (hm : RdC w 0 w.heap.size 1 u m.length (m.map u16v)) : Ret Try.prog 101 #[(Value.agg #[(Value.string (bs x)), v]), (Value.agg #[(Value.string (bs y)), u])] w (fun v' w' => Below w.heap.size w w' ∧ v' = .bool (decide (x = y) && decide (l = m))) := by
 have hb := Below.refl w.heap.size w
 refine enter (N := 17) Try.func101 rfl rfl (by simp) fun a0 hN hd hA => ?_
 have s0 : a0.tmps.getD 0 undef = (Value.agg #[(Value.string (bs x)), v]) := hA 0 (by simp)
 have s1 : a0.tmps.getD 1 undef = (Value.agg #[(Value.string (bs y)), u]) := hA 1 (by simp)
 clear hA
 refine seq_any fun K24 hK24 => ?_
 refine one_reg ?_
 refine op_box (cs := [(Value.string (bs x)), v]) (ev_base hN rfl s0) rfl ?_
 intro w25 b26 lo_b26 hi_b26 hB28 E27
 have z_w25 := E27.size
 have hl := hl.keep0 E27
 have hm := hm.keep0 E27
 have hb := below_step0 hb E27 hb.size
 refine op_box (cs := [(Value.string (bs y)), u]) (ev_base hN rfl s1) rfl ?_
 intro w29 b30 lo_b30 hi_b30 hB32 E31
 have z_w29 := E31.size
 have hl := hl.keep0 E31
 have hm := hm.keep0 E31
 have hB28 := hB28.keep0 E31
 have hb := below_step0 hb E31 hb.size
 refine op_assign rfl ?_
 refine reg_nil ?_
 refine hK24 _ _ ?_
 refine seq_any fun K33 hK33 => ?_
 refine one_reg ?_
 refine op_field fld169_0 (ev_hit hN rfl) ?_
 refine op_load1 (v := (Value.string (bs x))) one9 (ev_hit hN rfl) (hB28.cell rfl) ?_
 refine op_field fld169_0 (ev_hit hN rfl) ?_
 refine op_load1 (v := (Value.string (bs y))) one9 (ev_hit hN rfl) (hB32.cell rfl) ?_
 refine op_seql (ev_hit hN rfl) (ev_hit hN rfl) (fun c9 => ?_) (fun c9 => ?_)
 · -- 9T
  refine op_move (ev_hit hN rfl) ?_
  refine g_true (j := 5) (dj := 10) (b := true) rfl rfl rfl (ev_hit hN rfl) ?_
  refine op_field fld169_1 (ev_hit hN rfl) ?_
  refine g_true (j := 5) (dj := 10) (b := true) rfl rfl rfl (ev_hit hN rfl) ?_
  refine op_load1 (v := v) one54 (ev_hit hN rfl) (hB28.cell rfl) ?_
  refine g_true (j := 5) (dj := 10) (b := true) rfl rfl rfl (ev_hit hN rfl) ?_
  refine op_field fld169_1 (ev_hit hN rfl) ?_
  refine g_true (j := 5) (dj := 10) (b := true) rfl rfl rfl (ev_hit hN rfl) ?_
  refine op_load1 (v := u) one54 (ev_hit hN rfl) (hB32.cell rfl) ?_
  refine g_true (j := 5) (dj := 10) (b := true) rfl rfl rfl (ev_hit hN rfl) ?_
  refine op_fn (vs := [v, u]) ok102 ⟨(ev_hit hN rfl), ⟨(ev_hit hN rfl), trivial⟩⟩ (equalL (hl.mono (Nat.zero_le _) (by omega)) (hm.mono (Nat.zero_le _) (by omega))) ?_
  rintro _ w34 ⟨E35, rfl⟩
  have E35 := grown_of_below E35
  have z_w34 := E35.size
  have hl := hl.keep0 E35
  have hm := hm.keep0 E35
  have hB28 := hB28.keep0 E35
  have hB32 := hB32.keep0 E35
  have hb := below_step0 hb E35 hb.size
  refine op_pick_t (ev_hit hN rfl) (ev_hit hN rfl) ?_
  refine op_assign (ev_hit hN rfl) ?_
  refine reg_nil ?_
  refine hK33 _ _ ?_
  refine wp_ret ?_
  refine ret1 rfl hd (ev_hit hN rfl) ⟨_, rfl, ?_⟩
  -- path 9T
  exact ⟨hb, congrArg Value.bool (by rw [decide_eq_true c9, Bool.true_and])⟩
 · -- 9F
  refine op_move (ev_hit hN rfl) ?_
  refine g_false (j := 5) (dj := 10) (b := true) rfl rfl rfl (ev_hit hN rfl) rfl rfl ?_
  refine g_false (j := 5) (dj := 10) (b := true) rfl rfl rfl (ev_hit hN rfl) rfl rfl ?_
  refine g_false (j := 5) (dj := 10) (b := true) rfl rfl rfl (ev_hit hN rfl) rfl rfl ?_
  refine g_false (j := 5) (dj := 10) (b := true) rfl rfl rfl (ev_hit hN rfl) rfl rfl ?_
  refine g_false (j := 5) (dj := 10) (b := true) rfl rfl rfl (ev_hit hN rfl) rfl rfl ?_
  refine op_pick_f (ev_hit hN rfl) rfl ?_
  refine op_assign (ev_hit hN rfl) ?_
  refine reg_nil ?_
  refine hK33 _ _ ?_
  refine wp_ret ?_
  refine ret1 rfl hd (ev_hit hN rfl) ⟨_, rfl, ?_⟩
  -- path 9F
  exact ⟨hb, congrArg Value.bool (by rw [decide_eq_false c9, Bool.false_and])⟩

theorem ask3 {x y : List UInt8} {w : World} : Ret Try.prog 104 #[(Value.string (bs x)), (Value.string (bs y))] w (fun v' w' => Below w.heap.size w w' ∧ v' = .bool (decide (x = y))) := by
 have hb := Below.refl w.heap.size w
 refine enter (N := 8) Try.func104 rfl rfl (by simp) fun a0 hN hd hA => ?_
 have s0 : a0.tmps.getD 0 undef = (Value.string (bs x)) := hA 0 (by simp)
 have s1 : a0.tmps.getD 1 undef = (Value.string (bs y)) := hA 1 (by simp)
 clear hA
 refine seq_any fun K36 hK36 => ?_
 refine one_reg ?_
 refine op_assign rfl ?_
 refine reg_nil ?_
 refine hK36 _ _ ?_
 refine seq_any fun K37 hK37 => ?_
 refine one_reg ?_
 refine op_move (ev_base hN rfl s0) ?_
 refine op_move (ev_base hN rfl s1) ?_
 refine op_seql (ev_hit hN rfl) (ev_hit hN rfl) (fun c7 => ?_) (fun c7 => ?_)
 · -- 7T
  refine op_assign (ev_hit hN rfl) ?_
  refine reg_nil ?_
  refine hK37 _ _ ?_
  refine wp_ret ?_
  refine ret1 rfl hd (ev_hit hN rfl) ⟨_, rfl, ?_⟩
  -- path 7T
  exact ⟨hb, congrArg Value.bool (decide_eq_true c7).symm⟩
 · -- 7F
  refine op_assign (ev_hit hN rfl) ?_
  refine reg_nil ?_
  refine hK37 _ _ ?_
  refine wp_ret ?_
  refine ret1 rfl hd (ev_hit hN rfl) ⟨_, rfl, ?_⟩
  -- path 7F
  exact ⟨hb, congrArg Value.bool (decide_eq_false c7).symm⟩

theorem addS1 {x y : List UInt8} {fb xb : Nat} {w : World} (hf9 : Bx w fb 172 [(Value.func (.func 104) #[] #[])]) (hb9 : Bx w xb 9 [.string (bs x)]) : Ret Try.prog 128 #[(Value.string (bs y)), (ptr fb 0), (ptr xb 0)] w (fun v' w' => Below w.heap.size w w' ∧ v' = .bool (decide (x = y))) := by
 have hb := Below.refl w.heap.size w
 refine enter (N := 9) Try.func128 rfl rfl (by simp) fun a0 hN hd hA => ?_
 have s0 : a0.tmps.getD 0 undef = (Value.string (bs y)) := hA 0 (by simp)
 have s1 : a0.tmps.getD 1 undef = (ptr fb 0) := hA 1 (by simp)
 have s2 : a0.tmps.getD 2 undef = (ptr xb 0) := hA 2 (by simp)
 clear hA
 refine seq_any fun K38 hK38 => ?_
 refine one_reg ?_
 refine op_assign rfl ?_
 refine reg_nil ?_
 refine hK38 _ _ ?_
 refine seq_any fun K39 hK39 => ?_
 refine one_reg ?_
 refine op_load1 (v := (Value.func (.func 104) #[] #[])) one172 (ev_base hN rfl s1) (hf9.cell rfl) ?_
 refine op_load1 (v := (Value.string (bs x))) one9 (ev_base hN rfl s2) (hb9.cell rfl) ?_
 refine op_move (ev_base hN rfl s0) ?_
 refine op_fnv (fs := []) (vs := [(Value.string (bs x)), (Value.string (bs y))]) (cs := []) (ev_hit hN rfl) ok104 ⟨(ev_hit hN rfl), ⟨(ev_hit hN rfl), trivial⟩⟩ (ask3) ?_
 rintro _ w40 ⟨E41, rfl⟩
 have E41 := grown_of_below E41
 have z_w40 := E41.size
 have hf9 := hf9.keep0 E41
 have hb9 := hb9.keep0 E41
 have hb := below_step0 hb E41 hb.size
 refine op_assign (ev_hit hN rfl) ?_
 refine reg_nil ?_
 refine hK39 _ _ ?_
 refine wp_ret ?_
 refine ret1 rfl hd (ev_hit hN rfl) ⟨_, rfl, ?_⟩
 -- path
 exact ⟨hb, rfl⟩

theorem addR1 {x : List UInt8} {l : List UInt16} {lv : Value} {r : RD} {fb xb : Nat} {w : World} (hf9 : Bx w fb 170 [(Value.func (.func 101) #[] #[])]) (hb9 : Bx w xb 169 [.string (bs x), lv]) (hl : RdC w 0 w.heap.size 1 lv l.length (l.map u16v)) (hr : RdC w 0 w.heap.size 1 r.la r.lab.length (r.lab.map u16v)) : Ret Try.prog 127 #[(Value.agg #[(Value.string (bs r.tab)), r.la]), (ptr fb 0), (ptr xb 0)] w (fun v' w' => Below w.heap.size w w' ∧ v' = .bool (decide (x = r.tab) && decide (l = r.lab))) := by
 have hb := Below.refl w.heap.size w
 refine enter (N := 9) Try.func127 rfl rfl (by simp) fun a0 hN hd hA => ?_
 have s0 : a0.tmps.getD 0 undef = (Value.agg #[(Value.string (bs r.tab)), r.la]) := hA 0 (by simp)
 have s1 : a0.tmps.getD 1 undef = (ptr fb 0) := hA 1 (by simp)
 have s2 : a0.tmps.getD 2 undef = (ptr xb 0) := hA 2 (by simp)
 clear hA
 refine seq_any fun K42 hK42 => ?_
 refine one_reg ?_
 refine op_box (cs := [(Value.string (bs r.tab)), r.la]) (ev_base hN rfl s0) rfl ?_
 intro w43 b44 lo_b44 hi_b44 hB46 E45
 have z_w43 := E45.size
 have hf9 := hf9.keep0 E45
 have hb9 := hb9.keep0 E45
 have hl := hl.keep0 E45
 have hr := hr.keep0 E45
 have hb := below_step0 hb E45 hb.size
 refine op_assign rfl ?_
 refine reg_nil ?_
 refine hK42 _ _ ?_
 refine seq_any fun K47 hK47 => ?_
 refine one_reg ?_
 refine op_load1 (v := (Value.func (.func 101) #[] #[])) one170 (ev_base hN rfl s1) (hf9.cell rfl) ?_
 refine op_loadA (cs := [(Value.string (bs x)), lv]) agg169 rfl (ev_base hN rfl s2) (fun j u hu => by rw [Nat.zero_add]; exact hb9.cell hu) ?_
 refine op_loadA (cs := [(Value.string (bs r.tab)), r.la]) agg169 rfl (ev_hit hN rfl) (fun j u hu => by rw [Nat.zero_add]; exact hB46.cell hu) ?_
 refine op_fnv (fs := []) (vs := [(Value.agg #[(Value.string (bs x)), lv]), (Value.agg #[(Value.string (bs r.tab)), r.la])]) (cs := []) (ev_hit hN rfl) ok101 ⟨(ev_hit hN rfl), ⟨(ev_hit hN rfl), trivial⟩⟩ (ask2 (hl.mono (Nat.zero_le _) (by omega)) (hr.mono (Nat.zero_le _) (by omega))) ?_
 rintro _ w48 ⟨E49, rfl⟩
 have E49 := grown_of_below E49
 have z_w48 := E49.size
 have hf9 := hf9.keep0 E49
 have hb9 := hb9.keep0 E49
 have hl := hl.keep0 E49
 have hr := hr.keep0 E49
 have hB46 := hB46.keep0 E49
 have hb := below_step0 hb E49 hb.size
 refine op_assign (ev_hit hN rfl) ?_
 refine reg_nil ?_
 refine hK47 _ _ ?_
 refine wp_ret ?_
 refine ret1 rfl hd (ev_hit hN rfl) ⟨_, rfl, ?_⟩
 -- path
 exact ⟨hb, rfl⟩

end Go.Proofs.Ytmhdbphpmgjpcaa

/- Small laws for walks, the twenty-ninth part: the first part of a region of open order that has calls which change the world, one after the other. -/
namespace Go.Gx
open Go.RowKit
section
variable {P : Program} {ol : List Oper} {Q : Exit → Act → World → Prop} {Φ : Nat → Value → World → Prop} {C : Nat → Value → World → Prop} {ch : Chain} {R : World → World → Prop} {a0 : Act} {N : Nat}
end
section
variable {P : Program} {ol : List Oper} {Q : Exit → Act → World → Prop} {Φ : Nat → Value → Prop} {G : World → Prop} {a0 : Act} {N : Nat}
end
end Go.Gx

/- Small laws for walks, the thirtieth part: a region of open order with operations one behind the other that change the world and hand back what nobody knows ahead, and light ones beside them. -/
namespace Go.Gx
open Go.RowKit
section
variable {P : Program} {ol : List Oper} {Q : Exit → Act → World → Prop} {E : Type} {Φ : E → Nat → Value → Prop} {C : E → Nat → World → Prop} {ch : Chain} {a0 : Act} {N : Nat}
/-- What a light operation must show, whatever the others handed back. -/
def ObNE (P : Program) (ol : List Oper) (Φ : E → Nat → Value → Prop) (C : E → Nat → World → Prop) (a0 : Act) (N : Nat) (i : Nat) (o : Oper) : Prop :=
  ∀ (e : E) (a : Act) (w : World) (c : Nat), a.tmps.size = N → C e c w → (∀ t, safeB ol i t = true → a.tmps.getD t undef = a0.tmps.getD t undef) → (∀ j oj d, depB ol i j = true → ol[j]? = some oj → oj.dst = some d → Φ e j (a.tmps.getD d undef)) →
    wpList P ol.toArray (fun ex a' w' => ex = .normal ∧ (∃ d v, o.dst = some d ∧ a' = putsL a [(d, v)] ∧ Φ e i v) ∧ w.grownBy w' none) [o] (putsL a []) w
/-- What a great one must show. -/
def ObCE (P : Program) (ol : List Oper) (Φ : E → Nat → Value → Prop) (C : E → Nat → World → Prop) (a0 : Act) (N : Nat) (c i : Nat) (o : Oper) : Prop :=
  ∀ (e : E) (a : Act) (w : World), a.tmps.size = N → (∀ t, safeB ol i t = true → a.tmps.getD t undef = a0.tmps.getD t undef) → (∀ j oj d, depB ol i j = true → ol[j]? = some oj → oj.dst = some d → Φ e j (a.tmps.getD d undef)) → C e c w →
    wpList P ol.toArray (fun ex a' w' => ex = .normal ∧ ∃ e', (∀ j u, Φ e j u → Φ e' j u) ∧ ((o.dst = none ∧ a' = a) ∨ ∃ d v, o.dst = some d ∧ a' = putsL a [(d, v)] ∧ Φ e' i v) ∧ C e' (c + 1) w') [o] (putsL a []) w
theorem region_env_steps (hlex : lexB' ol = true) (hdn : dstNB ol N = true) (hdst : dstsB ol = true) (hch : ch.okB ol = true) (w0 : World)
    (hC : ∀ e c w1 w2, w1.grownBy w2 none → C e c w1 → C e c w2)
    (obN : ∀ i o, ol[i]? = some o → ch.has i = false → ObNE P ol Φ C a0 N i o) (obC : ∀ c i o, ch.ops[c]? = some i → ol[i]? = some o → ObCE P ol Φ C a0 N c i o)
    (fin : ∀ a w e, RInv ol (fun j u _ => Φ e j u) (fun c _ w => C e c w) ch a0 N w0 (fun _ _ => True) (Array.replicate ol.length true) ch.ops.length a w → Q .normal a w) :
    ∀ (fuel : Nat) (listed : Array Bool) (c : Nat) (a : Act) (w : World) (e : E), RInv ol (fun j u _ => Φ e j u) (fun c _ w => C e c w) ch a0 N w0 (fun _ _ => True) listed c a w → (List.range ol.length).countP (fun i => !listed.getD i true) ≤ fuel → wpAny P .any ol.toArray Q fuel listed a w := by
  have hch' := hch
  simp only [Chain.okB, Bool.and_eq_true] at hch'
  obtain ⟨⟨⟨hc1, hc2⟩, hc3⟩, hc4⟩ := hch'
  have done : ∀ (listed : Array Bool) (c : Nat) (a : Act) (w : World) (e : E), RInv ol (fun j u _ => Φ e j u) (fun c _ w => C e c w) ch a0 N w0 (fun _ _ => True) listed c a w → Region.ready .any ol.toArray listed = [] → Q .normal a w := by
    intro listed c a w ee I hr
    have hall : ∀ i, i < ol.length → listed.getD i true = true := by
      intro i
      induction i using Nat.strongRecOn with
      | _ i ih =>
        intro hi
        by_cases hq : listed.getD i true = true
        · exact hq
        · exfalso
          have hm : i ∈ Region.ready .any ol.toArray listed := by
            rw [mem_ready]
            refine ⟨by simpa using hq, ol[i], by simp [hi], fun e he hb => ?_⟩
            have h1 := List.all_eq_true.1 hlex i (by simp [hi])
            simp only [List.getElem?_eq_getElem hi, Array.all_eq_true_iff_forall_mem, Bool.or_eq_true, Bool.not_eq_true', Nat.blt_eq] at h1
            have h2 := (h1 e he).resolve_left (by simp [hb])
            exact getD_true_lt (ih e.on h2 (by omega)) (by rw [I.lsize]; omega)
          rw [hr] at hm
          cases hm
    have hl : listed = Array.replicate ol.length true := by
      apply Array.ext
      · simp [I.lsize]
      · intro i h1 h2
        have := hall i (by simpa using h2)
        simp [Array.getD_eq_getD_getElem?, h1] at this
        simp [this]
    have hcc : c = ch.ops.length := by
      rcases Nat.lt_or_ge c ch.ops.length with h | h
      · exfalso
        have h1 := (I.chain c ch.ops[c] (by simp [h])).1 (hall _ (by
          have := List.all_eq_true.1 hc3 ch.ops[c] (List.getElem_mem h)
          simpa [Nat.blt_eq] using this))
        omega
      · exact Nat.le_antisymm I.cle h
    subst hl; subst hcc
    exact fin a w ee I
  intro fuel
  induction fuel with
  | zero =>
    intro listed c a w ee I hcnt
    have hr : Region.ready .any ol.toArray listed = [] := by
      rw [List.eq_nil_iff_forall_not_mem]
      intro i hi
      obtain ⟨h1, o, ho, _⟩ := mem_ready.1 hi
      have hlt : i < ol.length := by simpa using (Array.getElem?_eq_some_iff.1 ho).1
      have hz : (List.range ol.length).countP (fun i => !listed.getD i true) = 0 := by omega
      rw [List.countP_eq_zero] at hz
      exact hz i (by simp [hlt]) (by simp [h1])
    exact ⟨hr, done listed c a w ee I hr⟩
  | succ fuel ih =>
    intro listed c a w ee I hcnt
    refine ⟨fun hr => done listed c a w ee I hr, fun i hi => ?_⟩
    obtain ⟨hun, o, ho, hwait⟩ := mem_ready.1 hi
    have ho' : ol[i]? = some o := by simpa using ho
    have hlt : i < ol.length := (List.getElem?_eq_some_iff.1 ho').1
    have hls : i < listed.size := by rw [I.lsize]; exact hlt
    have hcnt' : (List.range ol.length).countP (fun j => !(listed.setIfInBounds i true).getD j true) ≤ fuel := by
      have : (List.range ol.length).countP (fun j => !(listed.setIfInBounds i true).getD j true) < (List.range ol.length).countP (fun j => !listed.getD j true) := by
        refine countP_lt _ _ (fun y hy => ?_) _ i (by simp [hlt]) (by simp [hun]) (by simp [Array.getD_eq_getD_getElem?, hls])
        by_cases hiy : i = y
        · subst hiy; simp [Array.getD_eq_getD_getElem?, hls] at hy
        · rwa [getD_set_ne true hiy] at hy
      omega
    have hbase : ∀ t, safeB ol i t = true → a.tmps.getD t undef = a0.tmps.getD t undef := by
      intro t ht
      refine I.base t fun j oj hj hlj hd => ?_
      have h1 := List.all_eq_true.1 ht oj (List.mem_of_getElem? hj)
      simp only [Bool.or_eq_true, bne_iff_ne, ne_eq, Array.any_eq_true, Bool.and_eq_true, beq_iff_eq] at h1
      rcases h1 with h1 | ⟨q, hq, h1, h2⟩
      · exact h1 hd
      · have := getD_of_false (I.closed j oj hj hlj _ (Array.getElem_mem hq) h2)
        rw [h1, hun] at this
        cases this
    have hdep : ∀ j oj d, depB ol i j = true → ol[j]? = some oj → oj.dst = some d → Φ ee j (a.tmps.getD d undef) := by
      intro j oj d hj hoj hd
      obtain ⟨e, he, h1, h2⟩ := depB_spec ho' hj
      exact I.phi j oj d hoj (getD_of_false (by rw [← h1]; exact hwait e he h2)) hd
    have hset : ∀ j, j ≠ i → (listed.setIfInBounds i true).getD j true = listed.getD j true := fun j hj => getD_set_ne true (Ne.symm hj)
    have hseti : (listed.setIfInBounds i true).getD i true = true := by simp [Array.getD_eq_getD_getElem?, hls]
    have hclosed : ∀ j oj, ol[j]? = some oj → (listed.setIfInBounds i true).getD j true = true → ∀ e ∈ oj.after, Region.binds .any e = true → (listed.setIfInBounds i true).getD e.on false = true := by
      intro j oj hoj hlj e he hb
      refine getD_set_true ?_
      by_cases hji : j = i
      · subst hji
        rw [ho'] at hoj; cases hoj
        exact hwait e he hb
      · rw [hset j hji] at hlj
        exact I.closed j oj hoj hlj e he hb
    have hne : ∀ j oj d, ol[j]? = some oj → j ≠ i → o.dst = some d → oj.dst ≠ some d := by
      intro j oj d hoj hji hd hd'
      have hj : j < ol.length := (List.getElem?_eq_some_iff.1 hoj).1
      have h1 := List.all_eq_true.1 (List.all_eq_true.1 hdst i (by simp [hlt])) j (by simp [hj])
      simp only [ho', hoj, Bool.or_eq_true, beq_iff_eq, bne_iff_ne, ne_eq] at h1
      rcases h1 with h1 | h1 | h1
      · exact hji h1.symm
      · exact h1 (by rw [hd, hd'])
      · rw [hd] at h1; cases h1
    -- what is left of the frame, behind a value in slot d
    have hframe : ∀ d v (e' : E), o.dst = some d → (∀ j u, Φ ee j u → Φ e' j u) → Φ e' i v → 
        (∀ t, (∀ j oj, ol[j]? = some oj → (listed.setIfInBounds i true).getD j true = true → oj.dst ≠ some t) → (putsL a [(d, v)]).tmps.getD t undef = a0.tmps.getD t undef) ∧
        (∀ j oj d', ol[j]? = some oj → (listed.setIfInBounds i true).getD j true = true → oj.dst = some d' → Φ e' j ((putsL a [(d, v)]).tmps.getD d' undef)) := by
      intro d v e' hd hR hv
      have hdN : d < a.tmps.size := by
        have h1 := List.all_eq_true.1 hdn o (List.mem_of_getElem? ho')
        simp only [hd, Nat.blt_eq] at h1
        rw [I.size]; exact h1
      refine ⟨fun t ht => ?_, fun j oj d' hoj hlj hd' => ?_⟩
      · have hdt : d ≠ t := fun e => ht i o ho' hseti (by rw [hd, e])
        rw [get_put_ne hdt]
        refine I.base t fun j oj hoj hlj => ?_
        by_cases hji : j = i
        · subst hji; rw [hun] at hlj; cases hlj
        · exact ht j oj hoj (by rw [hset j hji]; exact hlj)
      · by_cases hji : j = i
        · subst hji
          rw [ho'] at hoj; cases hoj
          rw [hd] at hd'; cases hd'
          rw [get_put_eq hdN]
          exact hv
        · rw [hset j hji] at hlj
          have : d ≠ d' := fun e => hne j oj d hoj hji hd (by rw [hd', e])
          rw [get_put_ne this]
          exact hR j _ (I.phi j oj d' hoj hlj hd')
    by_cases hin : ch.has i = true
    · have hmem : i ∈ ch.ops := by simpa [Chain.has] using hin
      obtain ⟨c0, hc0, hci⟩ := List.getElem_of_mem hmem
      have hci' : ch.ops[c0]? = some i := by simp [hc0, hci]
      have hcc : c0 = c := by
        have h1 : ¬ c0 < c := fun h => by
          have := (I.chain c0 i hci').2 h
          rw [hun] at this; cases this
        rcases Nat.lt_or_ge c c0 with h2 | h2
        · exfalso
          have h3 := List.all_eq_true.1 hc1 c0 (by simp [hc0])
          have hz : (c0 == 0) = false := by simp; omega
          have hp : ch.ops.getD (c0 - 1) 0 = ch.ops[c0 - 1] := by simp [List.getD_eq_getElem?_getD, show c0 - 1 < ch.ops.length by omega]
          have hq : ch.ops.getD c0 0 = i := by simp [List.getD_eq_getElem?_getD, hc0, hci]
          rw [hz, hp, hq, Bool.false_or] at h3
          obtain ⟨e, he, h4, h5⟩ := depB_spec ho' h3
          have h6 := getD_of_false (hwait e he h5)
          rw [h4] at h6
          have := (I.chain (c0 - 1) ch.ops[c0 - 1] (by simp [show c0 - 1 < ch.ops.length by omega])).1 h6
          omega
        · omega
      subst hcc
      refine wp_one (by simpa using ho') (obC c0 i o hci' ho' ee a w I.size hbase hdep I.chainC) fun a' w' h => ?_
      obtain ⟨e', hm, h1, h2⟩ := h
      have hchain : ∀ m i', ch.ops[m]? = some i' → ((listed.setIfInBounds i true).getD i' true = true ↔ m < c0 + 1) := by
        intro m i' hm
        by_cases hii : i' = i
        · subst hii
          have : m = c0 := by
            have hnd : ch.ops.Nodup := of_decide_eq_true hc4
            have hmlt : m < ch.ops.length := (List.getElem?_eq_some_iff.1 hm).1
            exact (List.getElem?_inj hmlt hnd).1 (by rw [hm, hci'])
          exact ⟨fun _ => by omega, fun _ => hseti⟩
        · rw [hset i' hii, I.chain m i' hm]
          refine ⟨fun h => by omega, fun h => ?_⟩
          rcases Nat.lt_or_ge m c0 with h' | h'
          · exact h'
          · have : m = c0 := by omega
            subst this
            rw [hci'] at hm; exact absurd (Option.some.inj hm).symm hii
      refine ih _ (c0 + 1) a' w' e' ?_ hcnt'
      rcases h1 with ⟨hd, rfl⟩ | ⟨d, v, hd, rfl, hv⟩
      · refine ⟨I.size, I.defers, fun t ht => ?_, fun j oj d' hoj hlj hd' => ?_, hclosed, by simp [I.lsize], by omega, hchain, h2, trivial⟩
        · refine I.base t fun j oj hoj hlj => ?_
          by_cases hji : j = i
          · subst hji; rw [hun] at hlj; cases hlj
          · exact ht j oj hoj (by rw [hset j hji]; exact hlj)
        · by_cases hji : j = i
          · subst hji
            rw [ho'] at hoj; cases hoj
            rw [hd] at hd'; cases hd'
          · rw [hset j hji] at hlj
            exact hm j _ (I.phi j oj d' hoj hlj hd')
      · obtain ⟨f1, f2⟩ := hframe d v e' hd hm hv
        exact ⟨by rw [putsL_size, I.size], by rw [putsL_defers, I.defers], f1, f2, hclosed, by simp [I.lsize], by omega, hchain, h2, trivial⟩
    · have hin' : ch.has i = false := by simpa using hin
      refine wp_one (by simpa using ho') (obN i o ho' hin' ee a w c I.size I.chainC hbase hdep) fun a' w' h => ?_
      obtain ⟨⟨d, v, hd, rfl, hv⟩, hg⟩ := h
      obtain ⟨f1, f2⟩ := hframe d v ee hd (fun _ _ h => h) hv
      refine ih _ c _ w' ee ⟨by rw [putsL_size, I.size], by rw [putsL_defers, I.defers], f1, f2, hclosed, by simp [I.lsize], I.cle, ?_, hC _ _ w w' hg I.chainC, trivial⟩ hcnt'
      · intro m i' hm
        have hii : i' ≠ i := by
          rintro rfl
          have : ch.has i' = true := by simpa [Chain.has] using List.mem_of_getElem? hm
          rw [hin'] at this; cases this
        rw [hset i' hii]
        exact I.chain m i' hm
end

section
variable {P : Program} {ol : List Oper} {Q : Exit → Act → World → Prop} {ops : List Nat} {φ : Nat → Value → Prop} {G : World → Prop} {a0 : Act} {N : Nat}
/-- What is told of an operation's value: of a great one, which it is of those that were handed back; of a light one, what is told ahead. -/
def PhE (ops : List Nat) (φ : Nat → Value → Prop) (e : List Value) (j : Nat) (u : Value) : Prop := (∀ c : Nat, ops[c]? = some j → e[c]? = some u) ∧ (ops.contains j = false → φ j u)
theorem PhE.mono {e : List Value} {v : Value} {j : Nat} {u : Value} (h : PhE ops φ e j u) : PhE ops φ (e ++ [v]) j u :=
  ⟨fun c hc => by have h1 := h.1 c hc; have hl := (List.getElem?_eq_some_iff.1 h1).1; rw [List.getElem?_append_left hl]; exact h1, h.2⟩
theorem PhE.light {j : Nat} {e : List Value} {u : Value} (hh : ops.contains j = false) (h : φ j u) : PhE ops φ e j u :=
  ⟨fun c hc => by have : ops.contains j = true := by simpa using List.mem_of_getElem? hc
                  exact absurd (this.symm.trans hh) (by decide), fun _ => h⟩
/-- what is left to show, with these great ones still to come -/
def KE (P : Program) (ol : List Oper) (ops : List Nat) (φ : Nat → Value → Prop) (G : World → Prop) (a0 : Act) (N : Nat) (Q : Exit → Act → World → Prop) : List Nat → List Value → World → Prop
  | [], e, w => ∀ w1, w.grownBy w1 none → ∀ a', a'.tmps.size = N → a'.defers = a0.defers → (∀ t, (ol.all fun o => o.dst != some t) = true → a'.tmps.getD t undef = a0.tmps.getD t undef) →
      (∀ j oj d, ol[j]? = some oj → oj.dst = some d → PhE ops φ e j (a'.tmps.getD d undef)) → Q .normal (putsL a' []) w1
  | i :: r, e, w => ∀ w1, w.grownBy w1 none → G w1 → ∀ a, a.tmps.size = N → (∀ t, safeB ol i t = true → a.tmps.getD t undef = a0.tmps.getD t undef) → (∀ j oj d, depB ol i j = true → ol[j]? = some oj → oj.dst = some d → PhE ops φ e j (a.tmps.getD d undef)) →
      ∀ o, ol[i]? = some o → wpList P ol.toArray (fun ex a' w' => ex = .normal ∧ ∃ e', (∀ j u, PhE ops φ e j u → PhE ops φ e' j u) ∧ ((o.dst = none ∧ a' = a) ∨ ∃ d v, o.dst = some d ∧ a' = putsL a [(d, v)] ∧ PhE ops φ e' i v) ∧ (e'.length = e.length + 1 ∧ KE P ol ops φ G a0 N Q r e' w' ∧ G w')) [o] (putsL a []) w1
theorem KE.stable : ∀ {rs : List Nat} {e : List Value} {w w2 : World}, KE P ol ops φ G a0 N Q rs e w → w.grownBy w2 none → KE P ol ops φ G a0 N Q rs e w2
  | [], _, _, _, h, E => fun w1 E1 => h w1 (grown_trans E E1)
  | _ :: _, _, _, _, h, E => fun w1 E1 => h w1 (grown_trans E E1)
/-- what a light operation must show -/
def ObE (P : Program) (ol : List Oper) (ops : List Nat) (φ : Nat → Value → Prop) (G : World → Prop) (a0 : Act) (N : Nat) (i : Nat) (o : Oper) : Prop :=
  ∀ (e : List Value) (a : Act) (w : World), a.tmps.size = N → G w → (∀ t, safeB ol i t = true → a.tmps.getD t undef = a0.tmps.getD t undef) → (∀ j oj d, depB ol i j = true → ol[j]? = some oj → oj.dst = some d → PhE ops φ e j (a.tmps.getD d undef)) →
    wpList P ol.toArray (fun ex a' w' => ex = .normal ∧ (∃ d v, o.dst = some d ∧ a' = putsL a [(d, v)] ∧ PhE ops φ e i v) ∧ w.grownBy w' none) [o] (putsL a []) w
def ObEs (P : Program) (ol : List Oper) (ops : List Nat) (φ : Nat → Value → Prop) (G : World → Prop) (a0 : Act) (N : Nat) : Nat → List Oper → Prop
  | _, [] => True
  | i, o :: r => (ops.contains i = false → ObE P ol ops φ G a0 N i o) ∧ ObEs P ol ops φ G a0 N (i + 1) r
theorem ObEs.nil {i : Nat} : ObEs P ol ops φ G a0 N i [] := trivial
theorem ObEs.cons {i : Nat} {o : Oper} {r : List Oper} (h : ObE P ol ops φ G a0 N i o) (h' : ObEs P ol ops φ G a0 N (i + 1) r) : ObEs P ol ops φ G a0 N i (o :: r) := ⟨fun _ => h, h'⟩
theorem ObEs.pass {i : Nat} {o : Oper} {r : List Oper} (hh : ops.contains i = true) (h' : ObEs P ol ops φ G a0 N (i + 1) r) : ObEs P ol ops φ G a0 N i (o :: r) := ⟨fun h => absurd (hh.symm.trans h) (by decide), h'⟩
theorem ObEs.getx : ∀ {l : List Oper} {i : Nat}, ObEs P ol ops φ G a0 N i l → ∀ j o, l[j]? = some o → ops.contains (i + j) = false → ObE P ol ops φ G a0 N (i + j) o
  | [], _, _, j, o, h, _ => by simp at h
  | o' :: r, i, h, 0, o, hj, hs => by simp at hj; subst hj; exact h.1 hs
  | o' :: r, i, h, j + 1, o, hj, hs => by
    have := ObEs.getx h.2 j o (by simpa using hj) (by rwa [show i + 1 + j = i + (j + 1) by omega])
    rwa [show i + 1 + j = i + (j + 1) by omega] at this
theorem any_env (ops : List Nat) (hlex : lexB' ol = true) (hdn : dstNB ol N = true) (hdst : dstsB ol = true) (hch : (⟨ops, fun _ => N⟩ : Chain).okB ol = true)
    {l : List (Nat × Value)} {w : World} (hN : a0.tmps.size = N) (hG : ∀ w1 w2, w1.grownBy w2 none → G w1 → G w2) (g0 : G w) (obL : ObEs P ol ops φ G (putsL a0 l) N 0 ol) (hdf : (putsL a0 l).defers = a0.defers)
    (main : KE P ol ops φ G (putsL a0 l) N Q ops [] w) : RegAny P ol Q (putsL a0 l) w := by
  have hnd : ops.Nodup := by
    have h := hch; simp only [Chain.okB, Bool.and_eq_true] at h; exact of_decide_eq_true h.2
  have hd : w.grownBy { w with drawn := w.drawn + 1 } none := ⟨rfl, rfl, rfl, Nat.le_refl _, fun _ _ _ => rfl⟩
  have I : RInv ol (fun j u _ => PhE ops φ [] j u) (fun c _ w => ([] : List Value).length = c ∧ KE P ol ops φ G (putsL a0 l) N Q (ops.drop c) [] w ∧ G w) ⟨ops, fun _ => N⟩ (putsL a0 l) N w (fun _ _ => True) (Array.replicate ol.length false) 0 (putsL a0 l) { w with drawn := w.drawn + 1 } := by
    refine ⟨slN hN, rfl, fun _ _ => rfl, fun j o d hj hl => ?_, fun j o hj hl => ?_, by simp, Nat.zero_le _, fun m i hm => ?_, ⟨rfl, main.stable hd, hG _ _ hd g0⟩, trivial⟩
    · have : j < ol.length := (List.getElem?_eq_some_iff.1 hj).1
      simp [Array.getD_eq_getD_getElem?, this] at hl
    · have : j < ol.length := (List.getElem?_eq_some_iff.1 hj).1
      simp [Array.getD_eq_getD_getElem?, this] at hl
    · have h3 : i < ol.length := by
        have hch' := hch
        simp only [Chain.okB, Bool.and_eq_true] at hch'
        have := List.all_eq_true.1 hch'.1.2 i (List.mem_of_getElem? hm)
        simpa [Nat.blt_eq] using this
      simp [Array.getD_eq_getD_getElem?, h3]
  have := region_env_steps (P := P) (Q := Q) (E := List Value) (Φ := fun e j u => PhE ops φ e j u) (C := fun e c w => e.length = c ∧ KE P ol ops φ G (putsL a0 l) N Q (ops.drop c) e w ∧ G w) (ch := ⟨ops, fun _ => N⟩) hlex hdn hdst hch w
    (fun e c w1 w2 E1 h => ⟨h.1, h.2.1.stable E1, hG _ _ E1 h.2.2⟩)
    (fun i o hi hh e a w1 c h1 h2 h3 h4 => by
      have hh' : ops.contains i = false := hh
      have h5 := ObEs.getx obL i o hi (by rw [Nat.zero_add]; exact hh') e a w1 h1 h2.2.2 (by rw [Nat.zero_add]; exact h3) (by rw [Nat.zero_add]; exact h4)
      rw [Nat.zero_add] at h5; exact h5)
    (fun c i o hc hi e a w1 h1 h2 h3 h4 => by
      obtain ⟨hl, hk, hg⟩ := h4
      have hdr : ops.drop c = i :: ops.drop (c + 1) := by
        have hlt : c < ops.length := (List.getElem?_eq_some_iff.1 hc).1
        rw [List.drop_eq_getElem_cons hlt, (List.getElem?_eq_some_iff.1 hc).2]
      rw [hdr] at hk
      subst hl
      exact hk w1 (grown_refl _ _) hg a h1 h2 h3 o hi)
    (fun a' w' e J => by
      have hk := J.chainC.2.1
      rw [List.drop_of_length_le (Nat.le_refl _)] at hk
      exact hk w' (grown_refl _ _) a' J.size (J.defers) (fun t ht => J.base t fun j o hj _ hd' => by
        have := List.all_eq_true.1 ht o (List.mem_of_getElem? hj)
        simp [hd'] at this) (fun j oj d hj hd' => J.phi j oj d hj (by
        have : j < ol.length := (List.getElem?_eq_some_iff.1 hj).1
        simp [Array.getD_eq_getD_getElem?, this]) hd'))
    ol.length (Array.replicate ol.length false) 0 (putsL a0 l) _ [] I (Nat.le_trans (List.countP_le_length) (by simp))
  exact this
theorem ke_end {o : Oper} {i d : Nat} {v : Value} {a : Act} {w : World} {e : List Value} {r : List Nat} (hi : ops[e.length]? = some i) (hnd : ops.Nodup) (hd : o.dst = some d) (g : G w) (h : KE P ol ops φ G a0 N Q r (e ++ [v]) w) :
    wpList P ol.toArray (fun ex a' w' => ex = .normal ∧ ∃ e', (∀ j u, PhE ops φ e j u → PhE ops φ e' j u) ∧ ((o.dst = none ∧ a' = a) ∨ ∃ d v, o.dst = some d ∧ a' = putsL a [(d, v)] ∧ PhE ops φ e' i v) ∧ (e'.length = e.length + 1 ∧ KE P ol ops φ G a0 N Q r e' w' ∧ G w')) [] (putsL a [(d, v)]) w :=
  ⟨rfl, e ++ [v], fun _ _ h => h.mono, .inr ⟨d, v, hd, rfl, fun c' hc' => by
    have : c' = e.length := (List.getElem?_inj (List.getElem?_eq_some_iff.1 hc').1 hnd).1 (by rw [hc', hi])
    subst this; simp, fun hh => by
    have : ops.contains i = true := by simpa using List.mem_of_getElem? hi
    exact absurd (this.symm.trans hh) (by decide)⟩, by simp, h, g⟩
theorem ke_end0 {o : Oper} {i : Nat} {a : Act} {w : World} {e : List Value} {r : List Nat} (hd : o.dst = none) (g : G w) (h : KE P ol ops φ G a0 N Q r (e ++ [undef]) w) :
    wpList P ol.toArray (fun ex a' w' => ex = .normal ∧ ∃ e', (∀ j u, PhE ops φ e j u → PhE ops φ e' j u) ∧ ((o.dst = none ∧ a' = a) ∨ ∃ d v, o.dst = some d ∧ a' = putsL a [(d, v)] ∧ PhE ops φ e' i v) ∧ (e'.length = e.length + 1 ∧ KE P ol ops φ G a0 N Q r e' w' ∧ G w')) [] (putsL a []) w := ⟨rfl, e ++ [undef], fun _ _ h => h.mono, .inl ⟨hd, rfl⟩, by simp, h, g⟩
theorem obE_end {o : Oper} {i d : Nat} {v : Value} {a : Act} {w : World} {e : List Value} (hh : ops.contains i = false) (hd : o.dst = some d) (hv : φ i v) :
    wpList P ol.toArray (fun ex a' w' => ex = .normal ∧ (∃ d v, o.dst = some d ∧ a' = putsL a [(d, v)] ∧ PhE ops φ e i v) ∧ w.grownBy w' none) [] (putsL a [(d, v)]) w := ⟨rfl, ⟨d, v, hd, rfl, PhE.light hh hv⟩, grown_refl _ _⟩
end
end Go.Gx
