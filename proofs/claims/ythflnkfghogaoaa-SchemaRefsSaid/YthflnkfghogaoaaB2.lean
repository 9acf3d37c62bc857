/- Tables in memory: those that are read, and those of one's own; what looks at statements. -/
import Derived.Test.YthflnkfghogaoaaProg
import Derived.KernelRfl
import Derived.Test.YthflnkfghogaoaaB1
set_option linter.unusedVariables false
set_option linter.unusedSimpArgs false

namespace Go.Gx
structure DTab where
  t : PTab
  cv : Value
  iv : Value
instance : Inhabited DTab := ⟨⟨⟨[], [], []⟩, .slice none 0 0, .slice none 0 0⟩⟩
def cellsT (d : DTab) : List Value := [.string (bs d.t.nm), d.cv, d.iv]
theorem el_dt {l : List DTab} {e : Int} {i : Nat} (he : e = (i : Int)) (h : i < l.length) : ∀ j u, (cellsT (l.getD i default))[j]? = some u → (l.flatMap cellsT)[e.toNat * 3 + j]? = some u :=
  el_flat (f := cellsT) (d := default) (by decide) (fun _ _ => rfl) he h
def TRd (w : World) (B : Nat) (d : DTab) : Prop := RdC w 0 B 3 d.cv d.t.cols.length (d.t.cols.flatMap cellsC) ∧ RdC w 0 B 1 d.iv d.t.idx.length (d.t.idx.map sv)
def TsRd (w : World) (B : Nat) (v : Value) (D : List DTab) : Prop := RdC w 0 B 3 v D.length (D.flatMap cellsT) ∧ ∀ d ∈ D, TRd w B d
section
variable {w w' : World} {B B' base b t e sz n : Nat} {D : List DTab} {v : Value} {row : Option Nat} {F G : Nat → Prop} {cs : List Value}
theorem TsRd.keep (h : TsRd w B v D) (E : w.grownBy w' row) (hne : ∀ k, row = some k → k < 0 ∨ B ≤ k) : TsRd w' B v D := ⟨h.1.keep E hne, fun a ha => ⟨(h.2 a ha).1.keep E hne, (h.2 a ha).2.keep E hne⟩⟩
theorem TsRd.keep0 (h : TsRd w B v D) (E : w.grownBy w' none) : TsRd w' B v D := h.keep E (by simp)
theorem TsRd.keepG (h : TsRd w B v D) (E : Gr w w' F) (hn : ∀ k, F k → k < 0 ∨ B ≤ k) : TsRd w' B v D := ⟨h.1.keepG E hn, fun a ha => ⟨(h.2 a ha).1.keepG E hn, (h.2 a ha).2.keepG E hn⟩⟩
theorem TsRd.keepO {u : Value} {ws : List Value} (h : TsRd w B v D) (O : Own w base e sz u n ws) (E : w.grownBy w' u.ownBlock) (hne : B ≤ base) : TsRd w' B v D :=
  h.keep E fun k hk => .inr (Nat.le_trans hne (O.lt k hk).1)
theorem TsRd.mono (h : TsRd w B v D) (hB : B ≤ B') : TsRd w B' v D := ⟨h.1.mono (Nat.le_refl _) hB, fun a ha => ⟨(h.2 a ha).1.mono (Nat.le_refl _) hB, (h.2 a ha).2.mono (Nat.le_refl _) hB⟩⟩
def TabsR (w : World) (base : Nat) (D : List DTab) (F : Nat → Prop) : Prop :=
  (∀ d ∈ D, Own w base 68 3 d.cv d.t.cols.length (d.t.cols.flatMap cellsC) ∧ Own w base 9 1 d.iv d.t.idx.length (d.t.idx.map sv)) ∧ ∀ x, F x ↔ ∃ d ∈ D, Bl d.cv x ∨ Bl d.iv x
theorem TabsR.lt (h : TabsR w base D F) : ∀ x, F x → base ≤ x ∧ x < w.heap.size := fun x hx => by
  obtain ⟨d, hd, hx⟩ := (h.2 x).1 hx
  rcases hx with hx | hx
  · exact (h.1 d hd).1.lt x hx
  · exact (h.1 d hd).2.lt x hx
theorem TabsR.keepG (h : TabsR w base D F) (E : Gr w w' G) (hd : Dj F G) : TabsR w' base D F :=
  ⟨fun d hm => ⟨(h.1 d hm).1.keepG E fun x hx => hd x ((h.2 x).2 ⟨d, hm, .inl hx⟩), (h.1 d hm).2.keepG E fun x hx => hd x ((h.2 x).2 ⟨d, hm, .inr hx⟩)⟩, h.2⟩
theorem TabsR.kz (h : TabsR w base D F) (E : w.grownBy w' none) : TabsR w' base D F := h.keepG (Gr.of0 E NoB) (fun _ _ h => h)
theorem TabsR.nil (w : World) (base : Nat) : TabsR w base [] NoB := ⟨fun _ h => (by cases h), fun x => ⟨fun h => h.elim, fun ⟨_, h, _⟩ => (by cases h)⟩⟩
theorem TabsR.mono {base' : Nat} (h : TabsR w base D F) (hb : base' ≤ base) : TabsR w base' D F := ⟨fun d hm => ⟨(h.1 d hm).1.mono hb, (h.1 d hm).2.mono hb⟩, h.2⟩
theorem TabsR.snoc {d : DTab} (h : TabsR w base D F) (h1 : Own w base 68 3 d.cv d.t.cols.length (d.t.cols.flatMap cellsC)) (h2 : Own w base 9 1 d.iv d.t.idx.length (d.t.idx.map sv)) : TabsR w base (D ++ [d]) (fun x => F x ∨ Bl d.cv x ∨ Bl d.iv x) := by
  refine ⟨fun a ha => ?_, fun x => ⟨fun hx => ?_, fun hx => ?_⟩⟩
  · rcases List.mem_append.1 ha with ha | ha
    · exact h.1 a ha
    · rw [List.mem_singleton] at ha; subst ha; exact ⟨h1, h2⟩
  · rcases hx with hx | hx
    · obtain ⟨a, ha, hx⟩ := (h.2 x).1 hx
      exact ⟨a, by simp [ha], hx⟩
    · exact ⟨d, by simp, hx⟩
  · obtain ⟨a, ha, hx⟩ := hx
    rcases List.mem_append.1 ha with ha | ha
    · exact .inl ((h.2 x).2 ⟨a, ha, hx⟩)
    · rw [List.mem_singleton] at ha; subst ha; exact .inr hx
theorem TabsR.notBx (h : TabsR w base D F) (B : Bx w b t cs) (h1 : t ≠ 68) (h2 : t ≠ 9) : ¬ F b := fun hf => by
  obtain ⟨d, hd, hf⟩ := (h.2 b).1 hf
  rcases hf with hf | hf
  · exact (h.1 d hd).1.neB B h1 hf
  · exact (h.1 d hd).2.neB B h2 hf
theorem TabsR.notOwn {base2 : Nat} (h : TabsR w base D F) (O : Own w base2 e sz v n cs) (h1 : e ≠ 68) (h2 : e ≠ 9) : Dj (Bl v) F := fun x hx hf => by
  obtain ⟨d, hd, hf⟩ := (h.2 x).1 hf
  rcases hf with hf | hf
  · exact O.notOwn (h.1 d hd).1 h1 x hx hf
  · exact O.notOwn (h.1 d hd).2 h2 x hx hf
theorem TabsR.rd (h : TabsR w base D F) (O : Own w base 55 3 v D.length (D.flatMap cellsT)) : TsRd w w.heap.size v D :=
  ⟨O.rdw.mono (Nat.zero_le _) (Nat.le_refl _), fun d hd => ⟨(h.1 d hd).1.rdw.mono (Nat.zero_le _) (Nat.le_refl _), (h.1 d hd).2.rdw.mono (Nat.zero_le _) (Nat.le_refl _)⟩⟩
end
theorem one_flat {α : Type} {f : α → List Value} (h : ∀ x, (f x).all Value.oneCell' = true) (l : List α) : (l.flatMap f).all Value.oneCell' = true := by
  rw [List.all_eq_true]; intro v hv
  obtain ⟨x, _, hx⟩ := List.mem_flatMap.1 hv
  exact (List.all_eq_true.1 (h x)) v hx
theorem one_pc (l : List PCol) : (l.flatMap cellsC).all Value.oneCell' = true := one_flat (fun _ => rfl) l
theorem one_pi (l : List PItm) : (l.flatMap cellsI).all Value.oneCell' = true := one_flat (fun _ => rfl) l
def ixOf {α : Type} (p : α → Bool) (L : List α) : Int := match L.findIdx? p with | some i => i | none => -1
theorem ixOf_hit {α : Type} [Inhabited α] {p : α → Bool} {L : List α} {i : Nat} (hi : i < L.length) (h : ∀ j, j < i → p (L.getD j default) = false) (hx : p (L.getD i default) = true) : ixOf p L = i := by
  unfold ixOf
  have : L.findIdx? p = some i := by
    rw [List.findIdx?_eq_some_iff_getElem]
    refine ⟨hi, by simpa [List.getD_eq_getElem?_getD, hi] using hx, fun j hj => ?_⟩
    have := h j hj
    simpa [List.getD_eq_getElem?_getD, show j < L.length by omega] using this
  rw [this]
theorem ixOf_none {α : Type} [Inhabited α] {p : α → Bool} {L : List α} {i : Nat} (hi : L.length ≤ i) (h : ∀ j, j < i → p (L.getD j default) = false) : ixOf p L = -1 := by
  unfold ixOf
  have : L.findIdx? p = none := by
    rw [List.findIdx?_eq_none_iff]
    intro x hx
    obtain ⟨j, hj, rfl⟩ := List.mem_iff_getElem.1 hx
    have := h j (by omega)
    simpa [List.getD_eq_getElem?_getD, hj] using this
  rw [this]
theorem ixOf_cases {α : Type} [Inhabited α] (p : α → Bool) (L : List α) : (ixOf p L = -1 ∧ L.find? p = none) ∨ ∃ i : Nat, ixOf p L = i ∧ i < L.length ∧ p (L.getD i default) = true ∧ L.find? p = some (L.getD i default) := by
  unfold ixOf
  cases h : L.findIdx? p with
  | none =>
    refine .inl ⟨rfl, ?_⟩
    rw [List.findIdx?_eq_none_iff] at h
    exact List.find?_eq_none.2 fun x hx => by rw [h x hx]; simp
  | some i =>
    rw [List.findIdx?_eq_some_iff_getElem] at h
    obtain ⟨hi, hx, hn⟩ := h
    have e : L.getD i default = L[i] := by simp [List.getD_eq_getElem?_getD, hi]
    refine .inr ⟨i, rfl, hi, by rw [e]; exact hx, ?_⟩
    rw [e, List.find?_eq_some_iff_getElem]
    exact ⟨hx, i, hi, rfl, fun j hj => by simp [hn j hj]⟩
section
variable {w w' : World} {base b t e sz n l : Nat} {C : List PItm} {K : List Int} {v tv vv : Value} {F G : Nat → Prop} {cs : List Value}
end
end Go.Gx

namespace Go.Gx
theorem dt_get {D D' : List DTab} (h : D'.map DTab.t = D.map DTab.t) (k : Nat) : (D'.getD k default).t = (D.getD k default).t := by
  have e : ∀ l : List DTab, (l.getD k default).t = (l.map DTab.t).getD k (default : DTab).t := fun l => by
    simp only [List.getD_eq_getElem?_getD, List.getElem?_map]; cases l[k]? <;> rfl
  rw [e, e, h]
theorem dt_len {D D' : List DTab} (h : D'.map DTab.t = D.map DTab.t) : D'.length = D.length := by have := congrArg List.length h; simpa using this
theorem tab_find (D : List DTab) (nm : List UInt8) : tabAt (D.map DTab.t) nm = (D.find? fun d => decide (d.t.nm = nm)).map DTab.t := by unfold tabAt; rw [List.find?_map]; rfl
theorem tab_none {D : List DTab} {nm : List UInt8} (h : (ixOf (fun d => decide (d.t.nm = nm)) D) < 0) : tabAt (D.map DTab.t) nm = none := by
  rcases ixOf_cases (fun d : DTab => decide (d.t.nm = nm)) D with ⟨_, h2⟩ | ⟨i, hi, _⟩
  · rw [tab_find, h2]; rfl
  · omega
theorem tab_some {D : List DTab} {nm : List UInt8} (h : ¬ (ixOf (fun d => decide (d.t.nm = nm)) D) < 0) : ∃ k : Nat, ixOf (fun d => decide (d.t.nm = nm)) D = k ∧ k < D.length ∧ (D.getD k default).t.nm = nm ∧ tabAt (D.map DTab.t) nm = some (D.getD k default).t := by
  rcases ixOf_cases (fun d : DTab => decide (d.t.nm = nm)) D with ⟨h1, _⟩ | ⟨i, hi, hl, hp, hf⟩
  · omega
  · exact ⟨i, hi, hl, by simpa using hp, by rw [tab_find, hf]; rfl⟩
end Go.Gx
namespace Go.Gx
end Go.Gx
namespace Go.Gx
end Go.Gx
namespace Go.Gx
theorem range_map_take {α : Type} [Inhabited α] (g : Nat → α) (n i : Nat) (h : i < n) : (((List.range n).map g).getD i default) = g i := by simp [List.getD_eq_getElem?_getD, h]
end Go.Gx

namespace Go.Gx
structure DVw where
  nm : List UInt8
  sv : Value
  strip : List UInt16
  act : XS
instance : Inhabited DVw := ⟨⟨[], .slice none 0 0, [], default⟩⟩
def cellsW (d : DVw) : List Value := [.string (bs d.nm), d.sv, .int .i64 d.act.f.kind, .string (bs d.act.f.tb), .string (bs d.act.f.nm), d.act.f.cv, d.act.f.gv, d.act.f.vv, d.act.f.iv, .string (bs d.act.f.join), d.act.f.ov, d.act.f.wv, d.act.f.rv, .bool d.act.f.desc, d.act.nv]
theorem el_dv {l : List DVw} {e : Int} {i : Nat} (he : e = (i : Int)) (h : i < l.length) : ∀ j u, (cellsW (l.getD i default))[j]? = some u → (l.flatMap cellsW)[e.toNat * 15 + j]? = some u :=
  el_flat (f := cellsW) (d := default) (by decide) (fun _ _ => rfl) he h
end Go.Gx
namespace Go.Gx
end Go.Gx
namespace Go.Gx
section
variable {w w' : World} {B B' : Nat} {L : List XS} {row : Option Nat} {F : Nat → Prop}
end
end Go.Gx

namespace Go.Gx
inductive XFr (w : World) (L B : Nat) : XE → Prop
  | mk {e : XE} (h : RdC w L B 7 e.av e.args.length (e.args.flatMap cellsX)) (hs : ∀ a ∈ e.args, XFr w L B a) (hn : e.args.length ≤ 1000) : XFr w L B e
structure XsFr (w : World) (L B : Nat) (v : Value) (E : List XE) : Prop where
  rdc : RdC w L B 7 v E.length (E.flatMap cellsX)
  all : ∀ a ∈ E, XFr w L B a
  small : E.length ≤ 1000
section
variable {w w' : World} {base p b t e sz n L B L' B' : Nat} {lv v u : Value} {bl : List UInt8} {F G : Nat → Prop} {cs ws : List Value} {x x2 : XE} {E : List XE} {row : Option Nat}
theorem XFr.list (h : XFr w L B x) : XsFr w L B x.av x.args := by cases h with | mk h hs hn => exact ⟨h, hs, hn⟩
theorem XFr.keep (h : XFr w L B x) (E : w.grownBy w' row) (hne : ∀ k, row = some k → k < L ∨ B ≤ k) : XFr w' L B x := by induction h with | mk h _ q ih => exact .mk (h.keep E hne) ih q
theorem XFr.keepG (h : XFr w L B x) (E : Gr w w' F) (hn : ∀ k, F k → k < L ∨ B ≤ k) : XFr w' L B x := by induction h with | mk h _ q ih => exact .mk (h.keepG E hn) ih q
theorem XFr.keep0 (h : XFr w L B x) (E : w.grownBy w' none) : XFr w' L B x := h.keep E (by simp)
theorem XFr.mono (h : XFr w L B x) (hL : L' ≤ L) (hB : B ≤ B') : XFr w L' B' x := by induction h with | mk h _ q ih => exact .mk (h.mono hL hB) ih q
theorem XsFr.keep (h : XsFr w L B v E) (E2 : w.grownBy w' row) (hne : ∀ k, row = some k → k < L ∨ B ≤ k) : XsFr w' L B v E := ⟨h.1.keep E2 hne, fun a ha => (h.2 a ha).keep E2 hne, h.3⟩
theorem XsFr.keep0 (h : XsFr w L B v E) (E2 : w.grownBy w' none) : XsFr w' L B v E := h.keep E2 (by simp)
theorem XsFr.keepG (h : XsFr w L B v E) (E2 : Gr w w' F) (hn : ∀ k, F k → k < L ∨ B ≤ k) : XsFr w' L B v E := ⟨h.1.keepG E2 hn, fun a ha => (h.2 a ha).keepG E2 hn, h.3⟩
theorem XsFr.keepO {ws : List Value} (h : XsFr w L B v E) (O : Own w base e sz u n ws) (E2 : w.grownBy w' u.ownBlock) (hne : B ≤ base) : XsFr w' L B v E := h.keep E2 fun k hk => .inr (Nat.le_trans hne (O.lt k hk).1)
theorem XsFr.mono (h : XsFr w L B v E) (hL : L' ≤ L) (hB : B ≤ B') : XsFr w L' B' v E := ⟨h.1.mono hL hB, fun a ha => (h.2 a ha).mono hL hB, h.3⟩
theorem XsFr.nil (w : World) (L B : Nat) : XsFr w L B (.slice none 0 0) [] := ⟨RdC.nil _ _ _ _, fun _ h => (by cases h), by simp⟩
theorem XsFr.node (h : XsFr w L B x.av x.args) : XFr w L B x := .mk h.1 h.2 h.3
end
/-! columns that may be named, and the kinds of what is made -/
end Go.Gx
namespace Go.Gx
end Go.Gx
namespace Go.Gx
end Go.Gx

namespace Go.Gx
section
variable {w w' : World} {B b : Nat} {e e2 : XE} {v : Value}
end
end Go.Gx

namespace Go.Gx
section
variable {C : List PItm} {K : List Int} {e a : XE} {k : Int}
theorem one9 {l : List Int} (op : Int) (h : l = [k]) (hk : k = takesX op [k]) : ∀ j, j < l.length → l.getD j 0 = takesX op l := by
  subst h; intro j hj
  have : j = 0 := by simp at hj; exact hj
  subst this; exact hk
end
end Go.Gx

namespace Go.Gx
def FFr (w : World) (L B : Nat) (f : StF) : Prop :=
  RdC w L B 3 f.cv f.cols.length (f.cols.flatMap cellsC) ∧ RdC w L B 1 f.gv f.tags.length (f.tags.map u16v) ∧ XsFr w L B f.vv f.vals ∧ RdC w L B 3 f.iv f.items.length (f.items.flatMap cellsI) ∧ XsFr w L B f.ov f.on ∧ XsFr w L B f.wv f.wh ∧ XsFr w L B f.rv f.ord
def SmF (f : StF) : Prop := f.cols.length ≤ 1000 ∧ f.tags.length ≤ 1000 ∧ f.items.length ≤ 1000
inductive SFr (w : World) (L B : Nat) : XS → Prop
  | mk {s : XS} (hf : FFr w L B s.f) (h : RdC w L B 13 s.nv s.inner.length (s.inner.flatMap cellsS)) (hs : ∀ a ∈ s.inner, SFr w L B a) (hn : SmF s.f ∧ s.inner.length ≤ 1000) : SFr w L B s
section
variable {w w' : World} {base e sz n L B L' B' b : Nat} {u v : Value} {f : StF} {s : XS} {row : Option Nat} {F : Nat → Prop} {ws : List Value}
theorem FFr.keep (h : FFr w L B f) (E : w.grownBy w' row) (hne : ∀ k, row = some k → k < L ∨ B ≤ k) : FFr w' L B f :=
  ⟨h.1.keep E hne, h.2.1.keep E hne, h.2.2.1.keep E hne, h.2.2.2.1.keep E hne, h.2.2.2.2.1.keep E hne, h.2.2.2.2.2.1.keep E hne, h.2.2.2.2.2.2.keep E hne⟩
theorem FFr.keepG (h : FFr w L B f) (E : Gr w w' F) (hn : ∀ k, F k → k < L ∨ B ≤ k) : FFr w' L B f :=
  ⟨h.1.keepG E hn, h.2.1.keepG E hn, h.2.2.1.keepG E hn, h.2.2.2.1.keepG E hn, h.2.2.2.2.1.keepG E hn, h.2.2.2.2.2.1.keepG E hn, h.2.2.2.2.2.2.keepG E hn⟩
theorem FFr.mono (h : FFr w L B f) (hL : L' ≤ L) (hB : B ≤ B') : FFr w L' B' f :=
  ⟨h.1.mono hL hB, h.2.1.mono hL hB, h.2.2.1.mono hL hB, h.2.2.2.1.mono hL hB, h.2.2.2.2.1.mono hL hB, h.2.2.2.2.2.1.mono hL hB, h.2.2.2.2.2.2.mono hL hB⟩
theorem SFr.keep (h : SFr w L B s) (E : w.grownBy w' row) (hne : ∀ k, row = some k → k < L ∨ B ≤ k) : SFr w' L B s := by
  induction h with | mk hf h _ q ih => exact .mk (hf.keep E hne) (h.keep E hne) ih q
theorem SFr.keep0 (h : SFr w L B s) (E : w.grownBy w' none) : SFr w' L B s := h.keep E (by simp)
theorem SFr.keepG (h : SFr w L B s) (E : Gr w w' F) (hn : ∀ k, F k → k < L ∨ B ≤ k) : SFr w' L B s := by
  induction h with | mk hf h _ q ih => exact .mk (hf.keepG E hn) (h.keepG E hn) ih q
theorem SFr.keepO (h : SFr w L B s) (O : Own w base e sz u n ws) (E : w.grownBy w' u.ownBlock) (hne : B ≤ base) : SFr w' L B s := h.keep E fun k hk => .inr (Nat.le_trans hne (O.lt k hk).1)
theorem SFr.mono (h : SFr w L B s) (hL : L' ≤ L) (hB : B ≤ B') : SFr w L' B' s := by
  induction h with | mk hf h _ q ih => exact .mk (hf.mono hL hB) (h.mono hL hB) ih q
theorem SFr.flat (hf : FFr w L B s.f) (hz : SmF s.f) (h1 : s.nv = .slice none 0 0) (h2 : s.inner = []) : SFr w L B s := .mk hf (by rw [h1, h2]; exact RdC.nil _ _ _ _) (by rw [h2]; exact fun _ h => (by cases h)) ⟨hz, by rw [h2]; simp⟩
theorem SFr.ff (h : SFr w L B s) : FFr w L B s.f := by cases h with | mk hf _ _ _ => exact hf
theorem SFr.sm (h : SFr w L B s) : SmF s.f ∧ s.inner.length ≤ 1000 := by cases h with | mk _ _ _ q => exact q
theorem SFr.all (h : SFr w L B s) : ∀ a ∈ s.inner, SFr w L B a := by cases h with | mk _ _ h _ => exact h
theorem SFr.nvr (h : SFr w L B s) : RdC w L B 13 s.nv s.inner.length (s.inner.flatMap cellsS) := by cases h with | mk _ h _ _ => exact h
end
end Go.Gx

namespace Go.Gx
def TsFr (w : World) (L B : Nat) (v : Value) (D : List DTab) : Prop := RdC w L B 3 v D.length (D.flatMap cellsT) ∧ ∀ d ∈ D, RdC w L B 3 d.cv d.t.cols.length (d.t.cols.flatMap cellsC) ∧ RdC w L B 1 d.iv d.t.idx.length (d.t.idx.map sv)
section
variable {w w' : World} {base e sz n L B L' B' : Nat} {u v : Value} {D : List DTab} {row : Option Nat} {F : Nat → Prop} {ws : List Value}
theorem TsFr.keep (h : TsFr w L B v D) (E : w.grownBy w' row) (hne : ∀ k, row = some k → k < L ∨ B ≤ k) : TsFr w' L B v D := ⟨h.1.keep E hne, fun a ha => ⟨(h.2 a ha).1.keep E hne, (h.2 a ha).2.keep E hne⟩⟩
theorem TsFr.keep0 (h : TsFr w L B v D) (E : w.grownBy w' none) : TsFr w' L B v D := h.keep E (by simp)
theorem TsFr.rd (h : TsFr w L B v D) : TsRd w B v D := ⟨h.1.mono (Nat.zero_le _) (Nat.le_refl _), fun a ha => ⟨(h.2 a ha).1.mono (Nat.zero_le _) (Nat.le_refl _), (h.2 a ha).2.mono (Nat.zero_le _) (Nat.le_refl _)⟩⟩
end
end Go.Gx

namespace Go.Gx
inductive XSame : XE → XE → Prop
  | mk {a b : XE} (h : a.op = b.op ∧ a.vk = b.vk ∧ a.vi = b.vi ∧ a.vt = b.vt ∧ a.tb = b.tb ∧ a.nm = b.nm) (hl : a.args.length = b.args.length) (hs : ∀ i, i < a.args.length → XSame (a.args.getD i default) (b.args.getD i default)) : XSame a b
def XsSame (E E2 : List XE) : Prop := E.length = E2.length ∧ ∀ i, i < E.length → XSame (E.getD i default) (E2.getD i default)
def FSame (f g : StF) : Prop := f.kind = g.kind ∧ f.tb = g.tb ∧ f.nm = g.nm ∧ f.cols = g.cols ∧ f.tags = g.tags ∧ XsSame f.vals g.vals ∧ f.items = g.items ∧ f.join = g.join ∧ XsSame f.on g.on ∧ XsSame f.wh g.wh ∧ XsSame f.ord g.ord ∧ f.desc = g.desc
inductive SSame : XS → XS → Prop
  | mk {s t : XS} (h : FSame s.f t.f) (hl : s.inner.length = t.inner.length) (hs : ∀ i, i < s.inner.length → SSame (s.inner.getD i default) (t.inner.getD i default)) : SSame s t
def SsSame (E E2 : List XS) : Prop := E.length = E2.length ∧ ∀ i, i < E.length → SSame (E.getD i default) (E2.getD i default)
def AllIn {α : Type} (R : World → Nat → Nat → α → Prop) (w : World) (base : Nat) (E : List α) (F : Nat → Prop) : Prop :=
  (∀ a ∈ E, ∃ L B, R w L B a ∧ base ≤ L ∧ B ≤ w.heap.size ∧ ∀ k, L ≤ k → k < B → F k) ∧ ∀ k, F k → base ≤ k ∧ k < w.heap.size
section
variable {α : Type} {R : World → Nat → Nat → α → Prop} {w w' : World} {base L B : Nat} {E : List α} {F G : Nat → Prop} {a : α}
theorem AllIn.keepG (h : AllIn R w base E F) (hR : ∀ a L B, R w L B a → (∀ k, G k → k < L ∨ B ≤ k) → R w' L B a) (hs : w.heap.size ≤ w'.heap.size) (hd : Dj F G) : AllIn R w' base E F :=
  ⟨fun a ha => by
    obtain ⟨L, B, h1, h2, h3, h4⟩ := h.1 a ha
    refine ⟨L, B, hR a L B h1 fun k hk => ?_, h2, by omega, h4⟩
    by_cases hl : k < L
    · exact .inl hl
    · by_cases hb : B ≤ k
      · exact .inr hb
      · exact absurd hk (hd k (h4 k (by omega) (by omega))), fun k hk => ⟨(h.2 k hk).1, by have := (h.2 k hk).2; omega⟩⟩
theorem AllIn.nil (w : World) (base : Nat) : AllIn R w base [] NoB := ⟨fun _ h => (by cases h), fun _ h => h.elim⟩
theorem AllIn.snoc (h : AllIn R w base E F) (ha : R w L B a) (hL : base ≤ L) (hB : B ≤ w.heap.size) : AllIn R w base (E ++ [a]) (fun k => F k ∨ (L ≤ k ∧ k < B)) :=
  ⟨fun x hx => by
    rcases List.mem_append.1 hx with hx | hx
    · obtain ⟨L, B, h1, h2, h3, h4⟩ := h.1 x hx
      exact ⟨L, B, h1, h2, h3, fun k q1 q2 => .inl (h4 k q1 q2)⟩
    · rw [List.mem_singleton] at hx; subst hx
      exact ⟨L, B, ha, hL, hB, fun k q1 q2 => .inr ⟨q1, q2⟩⟩, fun k hk => hk.elim (h.2 k) fun q => by omega⟩
end
def XsIn (w : World) (base : Nat) (E : List XE) (F : Nat → Prop) : Prop := AllIn XFr w base E F
def SsIn (w : World) (base : Nat) (E : List XS) (F : Nat → Prop) : Prop := AllIn SFr w base E F
section
variable {w w' : World} {base L B : Nat} {F G : Nat → Prop} {v : Value}
theorem XsIn.lt {E : List XE} (h : XsIn w base E F) : ∀ k, F k → base ≤ k ∧ k < w.heap.size := h.2
theorem XsIn.keepG {E : List XE} (h : XsIn w base E F) (E2 : Gr w w' G) (hd : Dj F G) : XsIn w' base E F := AllIn.keepG h (fun _ _ _ h1 h2 => h1.keepG E2 h2) E2.size hd
theorem XsIn.nil (w : World) (base : Nat) : XsIn w base [] NoB := AllIn.nil w base
theorem XsIn.snoc {E : List XE} {a : XE} (h : XsIn w base E F) (ha : XFr w L B a) (hL : base ≤ L) (hB : B ≤ w.heap.size) : XsIn w base (E ++ [a]) (fun k => F k ∨ (L ≤ k ∧ k < B)) := AllIn.snoc h ha hL hB
theorem XsIn.fr {E : List XE} (h : XsIn w base E F) (hn : E.length ≤ 1000) (O : Own w base 28 7 v E.length (E.flatMap cellsX)) : XsFr w base w.heap.size v E :=
  ⟨O.rdw, fun a ha => by obtain ⟨L, B, h1, h2, h3, _⟩ := h.1 a ha; exact h1.mono h2 h3, hn⟩
theorem SsIn.lt {E : List XS} (h : SsIn w base E F) : ∀ k, F k → base ≤ k ∧ k < w.heap.size := h.2
theorem SsIn.keepG {E : List XS} (h : SsIn w base E F) (E2 : Gr w w' G) (hd : Dj F G) : SsIn w' base E F := AllIn.keepG h (fun _ _ _ h1 h2 => h1.keepG E2 h2) E2.size hd
theorem SsIn.nil (w : World) (base : Nat) : SsIn w base [] NoB := AllIn.nil w base
theorem SsIn.snoc {E : List XS} {a : XS} (h : SsIn w base E F) (ha : SFr w L B a) (hL : base ≤ L) (hB : B ≤ w.heap.size) : SsIn w base (E ++ [a]) (fun k => F k ∨ (L ≤ k ∧ k < B)) := AllIn.snoc h ha hL hB
structure SsFr (w : World) (L B : Nat) (v : Value) (E : List XS) : Prop where
  rdc : RdC w L B 13 v E.length (E.flatMap cellsS)
  all : ∀ a ∈ E, SFr w L B a
  small : E.length ≤ 1000
theorem SsFr.keep {row : Option Nat} {E : List XS} (h : SsFr w L B v E) (E2 : w.grownBy w' row) (hne : ∀ k, row = some k → k < L ∨ B ≤ k) : SsFr w' L B v E := ⟨h.1.keep E2 hne, fun a ha => (h.2 a ha).keep E2 hne, h.3⟩
theorem SsFr.keep0 {E : List XS} (h : SsFr w L B v E) (E2 : w.grownBy w' none) : SsFr w' L B v E := h.keep E2 (by simp)
theorem SsFr.keepO {base e sz n : Nat} {u : Value} {ws : List Value} {E : List XS} (h : SsFr w L B v E) (O : Own w base e sz u n ws) (E2 : w.grownBy w' u.ownBlock) (hne : B ≤ base) : SsFr w' L B v E := h.keep E2 fun k hk => .inr (Nat.le_trans hne (O.lt k hk).1)
theorem SsFr.mono {L' B' : Nat} {E : List XS} (h : SsFr w L B v E) (hL : L' ≤ L) (hB : B ≤ B') : SsFr w L' B' v E := ⟨h.1.mono hL hB, fun a ha => (h.2 a ha).mono hL hB, h.3⟩
theorem SFr.inn {s : XS} (h : SFr w L B s) : SsFr w L B s.nv s.inner := ⟨h.nvr, h.all, h.sm.2⟩
theorem SsIn.fr {E : List XS} (h : SsIn w base E F) (hn : E.length ≤ 1000) (O : Own w base 45 13 v E.length (E.flatMap cellsS)) : SsFr w base w.heap.size v E :=
  ⟨O.rdw, fun a ha => by obtain ⟨L, B, h1, h2, h3, _⟩ := h.1 a ha; exact h1.mono h2 h3, hn⟩
theorem dj_app {F : Nat → Prop} {L B n : Nat} {v v' : Value} (hd : Dj F (Bl v')) (hm : v'.ownBlock = v.ownBlock ∨ ∀ k, v'.ownBlock = some k → n ≤ k) (hl : ∀ k, v.ownBlock = some k → k < L) (hB : B ≤ n) : Dj (Bl v') (fun k => F k ∨ (L ≤ k ∧ k < B)) := fun k hk q => by
  rcases q with q | q
  · exact hd k q hk
  · rcases hm with hm | hm
    · have := hl k (hm.symm.trans hk); omega
    · have := hm k hk; omega
theorem dj_fresh {F : Nat → Prop} {L B : Nat} {v : Value} (h : Dj (Bl v) F) (h2 : ∀ k, Bl v k → k < L) : Dj (Bl v) (fun k => F k ∨ (L ≤ k ∧ k < B)) := fun k hk q => q.elim (h k hk) fun q => by have := h2 k hk; omega
end
theorem getD_snoc {α : Type} [Inhabited α] {l : List α} {x : α} {i : Nat} (h : i = l.length) : (l ++ [x]).getD i default = x := by subst h; simp [List.getD_eq_getElem?_getD]
theorem getD_old {α : Type} [Inhabited α] {l : List α} {x : α} {i : Nat} (h : i < l.length) : (l ++ [x]).getD i default = l.getD i default := by simp [List.getD_eq_getElem?_getD, List.getElem?_append_left h]
theorem same_next {α : Type} [Inhabited α] {S : α → α → Prop} {E E2 : List α} {x : α} {i : Nat} (hl : E2.length = i) (h : ∀ j, j < i → S (E.getD j default) (E2.getD j default)) (hx : S (E.getD i default) x) : ∀ j, j < i + 1 → S (E.getD j default) ((E2 ++ [x]).getD j default) := fun j hj => by
  by_cases hji : j = i
  · subst hji; rw [getD_snoc hl.symm]; exact hx
  · rw [getD_old (by omega)]; exact h j (by omega)
end Go.Gx

namespace Go.Proofs.Ythflnkfghogaoaa
open Go.Gx

theorem us3 : (Try.prog.underlying 3).isSome = true := by kernel_rfl
theorem one3 : oneT Try.prog 3 = true := by kernel_rfl
theorem size3 : (Try.prog.info? 3).map (·.size) = some 1 := by kernel_rfl
theorem zero3 : zeroT Try.prog 3 = some (Value.int .i64 0) := by kernel_rfl
theorem us5 : (Try.prog.underlying 5).isSome = true := by kernel_rfl
theorem one9 : oneT Try.prog 9 = true := by kernel_rfl
theorem size9 : (Try.prog.info? 9).map (·.size) = some 1 := by kernel_rfl
theorem one22 : oneT Try.prog 22 = true := by kernel_rfl
theorem slt22 : SlT Try.prog 22 63 (Value.agg #[(Value.int .i64 0), (Value.string (bs [])), (Value.string (bs []))]) 3 40 := ⟨Try.underlying22, by kernel_rfl, rfl, by decide⟩
theorem size22 : (Try.prog.info? 22).map (·.size) = some 1 := by kernel_rfl
theorem slt23 : SlT Try.prog 23 3 (Value.int .i64 0) 1 8 := ⟨Try.underlying23, by kernel_rfl, rfl, by decide⟩
theorem one26 : oneT Try.prog 26 = true := by kernel_rfl
theorem slt26 : SlT Try.prog 26 28 (Value.agg #[(Value.int .i64 0), (Value.int .i64 0), (Value.int .i64 0), (Value.string (bs [])), (Value.string (bs [])), (Value.string (bs [])), (Value.slice none 0 0)]) 7 96 := ⟨Try.underlying26, by kernel_rfl, rfl, by decide⟩
theorem size26 : (Try.prog.info? 26).map (·.size) = some 1 := by kernel_rfl
theorem agg28 : aggT Try.prog 28 = some 7 := by kernel_rfl
theorem fld28_4 : fieldT Try.prog 28 4 = some 6 := by kernel_rfl
theorem size28 : (Try.prog.info? 28).map (·.size) = some 7 := by kernel_rfl
theorem zero28 : zeroT Try.prog 28 = some (Value.agg #[(Value.int .i64 0), (Value.int .i64 0), (Value.int .i64 0), (Value.string (bs [])), (Value.string (bs [])), (Value.string (bs [])), (Value.slice none 0 0)]) := by kernel_rfl
theorem one36 : oneT Try.prog 36 = true := by kernel_rfl
theorem slt36 : SlT Try.prog 36 55 (Value.agg #[(Value.string (bs [])), (Value.slice none 0 0), (Value.slice none 0 0)]) 3 64 := ⟨Try.underlying36, by kernel_rfl, rfl, by decide⟩
theorem size36 : (Try.prog.info? 36).map (·.size) = some 1 := by kernel_rfl
theorem one37 : oneT Try.prog 37 = true := by kernel_rfl
theorem slt37 : SlT Try.prog 37 98 (Value.agg #[(Value.string (bs [])), (Value.slice none 0 0), (Value.int .i64 0), (Value.string (bs [])), (Value.string (bs [])), (Value.slice none 0 0), (Value.slice none 0 0), (Value.slice none 0 0), (Value.slice none 0 0), (Value.string (bs [])), (Value.slice none 0 0), (Value.slice none 0 0), (Value.slice none 0 0), (Value.bool false), (Value.slice none 0 0)]) 15 296 := ⟨Try.underlying37, by kernel_rfl, rfl, by decide⟩
theorem size37 : (Try.prog.info? 37).map (·.size) = some 1 := by kernel_rfl
theorem agg39 : aggT Try.prog 39 = some 2 := by kernel_rfl
theorem fld39_0 : fieldT Try.prog 39 0 = some 0 := by kernel_rfl
theorem fld39_1 : fieldT Try.prog 39 1 = some 1 := by kernel_rfl
theorem size39 : (Try.prog.info? 39).map (·.size) = some 2 := by kernel_rfl
theorem zero39 : zeroT Try.prog 39 = some (Value.agg #[(Value.slice none 0 0), (Value.slice none 0 0)]) := by kernel_rfl
theorem one41 : oneT Try.prog 41 = true := by kernel_rfl
theorem slt41 : SlT Try.prog 41 68 (Value.agg #[(Value.string (bs [])), (Value.int .i64 0), (Value.string (bs []))]) 3 40 := ⟨Try.underlying41, by kernel_rfl, rfl, by decide⟩
theorem size41 : (Try.prog.info? 41).map (·.size) = some 1 := by kernel_rfl
theorem one42 : oneT Try.prog 42 = true := by kernel_rfl
theorem slt42 : SlT Try.prog 42 74 (Value.int .u16 0) 1 2 := ⟨Try.underlying42, by kernel_rfl, rfl, by decide⟩
theorem size42 : (Try.prog.info? 42).map (·.size) = some 1 := by kernel_rfl
theorem one43 : oneT Try.prog 43 = true := by kernel_rfl
theorem slt43 : SlT Try.prog 43 45 (Value.agg #[(Value.int .i64 0), (Value.string (bs [])), (Value.string (bs [])), (Value.slice none 0 0), (Value.slice none 0 0), (Value.slice none 0 0), (Value.slice none 0 0), (Value.string (bs [])), (Value.slice none 0 0), (Value.slice none 0 0), (Value.slice none 0 0), (Value.bool false), (Value.slice none 0 0)]) 13 256 := ⟨Try.underlying43, by kernel_rfl, rfl, by decide⟩
theorem size43 : (Try.prog.info? 43).map (·.size) = some 1 := by kernel_rfl
theorem agg45 : aggT Try.prog 45 = some 13 := by kernel_rfl
theorem fld45_0 : fieldT Try.prog 45 0 = some 0 := by kernel_rfl
theorem fld45_2 : fieldT Try.prog 45 2 = some 2 := by kernel_rfl
theorem fld45_3 : fieldT Try.prog 45 3 = some 3 := by kernel_rfl
theorem fld45_4 : fieldT Try.prog 45 4 = some 4 := by kernel_rfl
theorem fld45_5 : fieldT Try.prog 45 5 = some 5 := by kernel_rfl
theorem fld45_6 : fieldT Try.prog 45 6 = some 6 := by kernel_rfl
theorem fld45_8 : fieldT Try.prog 45 8 = some 8 := by kernel_rfl
theorem fld45_9 : fieldT Try.prog 45 9 = some 9 := by kernel_rfl
theorem fld45_10 : fieldT Try.prog 45 10 = some 10 := by kernel_rfl
theorem fld45_12 : fieldT Try.prog 45 12 = some 12 := by kernel_rfl
theorem size45 : (Try.prog.info? 45).map (·.size) = some 13 := by kernel_rfl
theorem zero45 : zeroT Try.prog 45 = some (Value.agg #[(Value.int .i64 0), (Value.string (bs [])), (Value.string (bs [])), (Value.slice none 0 0), (Value.slice none 0 0), (Value.slice none 0 0), (Value.slice none 0 0), (Value.string (bs [])), (Value.slice none 0 0), (Value.slice none 0 0), (Value.slice none 0 0), (Value.bool false), (Value.slice none 0 0)]) := by kernel_rfl
theorem one53 : oneT Try.prog 53 = true := by kernel_rfl
theorem slt53 : SlT Try.prog 53 9 (Value.string (bs [])) 1 16 := ⟨Try.underlying53, by kernel_rfl, rfl, by decide⟩
theorem size53 : (Try.prog.info? 53).map (·.size) = some 1 := by kernel_rfl
theorem agg55 : aggT Try.prog 55 = some 3 := by kernel_rfl
theorem fld55_0 : fieldT Try.prog 55 0 = some 0 := by kernel_rfl
theorem fld55_1 : fieldT Try.prog 55 1 = some 1 := by kernel_rfl
theorem fld55_2 : fieldT Try.prog 55 2 = some 2 := by kernel_rfl
theorem size55 : (Try.prog.info? 55).map (·.size) = some 3 := by kernel_rfl
theorem zero55 : zeroT Try.prog 55 = some (Value.agg #[(Value.string (bs [])), (Value.slice none 0 0), (Value.slice none 0 0)]) := by kernel_rfl
theorem agg68 : aggT Try.prog 68 = some 3 := by kernel_rfl
theorem fld68_0 : fieldT Try.prog 68 0 = some 0 := by kernel_rfl
theorem fld68_1 : fieldT Try.prog 68 1 = some 1 := by kernel_rfl
theorem fld68_2 : fieldT Try.prog 68 2 = some 2 := by kernel_rfl
theorem size68 : (Try.prog.info? 68).map (·.size) = some 3 := by kernel_rfl
theorem zero68 : zeroT Try.prog 68 = some (Value.agg #[(Value.string (bs [])), (Value.int .i64 0), (Value.string (bs []))]) := by kernel_rfl
theorem one74 : oneT Try.prog 74 = true := by kernel_rfl
theorem size74 : (Try.prog.info? 74).map (·.size) = some 1 := by kernel_rfl
theorem one75 : oneT Try.prog 75 = true := by kernel_rfl
theorem slt75 : SlT Try.prog 75 74 (Value.int .u16 0) 1 2 := ⟨Try.underlying75, by kernel_rfl, rfl, by decide⟩
theorem size75 : (Try.prog.info? 75).map (·.size) = some 1 := by kernel_rfl
theorem agg98 : aggT Try.prog 98 = some 15 := by kernel_rfl
theorem fld98_0 : fieldT Try.prog 98 0 = some 0 := by kernel_rfl
theorem fld98_1 : fieldT Try.prog 98 1 = some 1 := by kernel_rfl
theorem fld98_2 : fieldT Try.prog 98 2 = some 2 := by kernel_rfl
theorem size98 : (Try.prog.info? 98).map (·.size) = some 15 := by kernel_rfl
theorem zero98 : zeroT Try.prog 98 = some (Value.agg #[(Value.string (bs [])), (Value.slice none 0 0), (Value.int .i64 0), (Value.string (bs [])), (Value.string (bs [])), (Value.slice none 0 0), (Value.slice none 0 0), (Value.slice none 0 0), (Value.slice none 0 0), (Value.string (bs [])), (Value.slice none 0 0), (Value.slice none 0 0), (Value.slice none 0 0), (Value.bool false), (Value.slice none 0 0)]) := by kernel_rfl
theorem one125 : oneT Try.prog 125 = true := by kernel_rfl
theorem one129 : oneT Try.prog 129 = true := by kernel_rfl
theorem one131 : oneT Try.prog 131 = true := by kernel_rfl
theorem us164 : (Try.prog.underlying 164).isSome = true := by kernel_rfl
theorem us178 : (Try.prog.underlying 178).isSome = true := by kernel_rfl
theorem one179 : oneT Try.prog 179 = true := by kernel_rfl
theorem size179 : (Try.prog.info? 179).map (·.size) = some 1 := by kernel_rfl
theorem zero179 : zeroT Try.prog 179 = some (Value.int .u64 0) := by kernel_rfl
theorem ok26 : callOk Try.prog 26 = true := by kernel_rfl
theorem ok27 : callOk Try.prog 27 = true := by kernel_rfl
theorem ok57 : callOk Try.prog 57 = true := by kernel_rfl
theorem ok58 : callOk Try.prog 58 = true := by kernel_rfl
theorem ok59 : callOk Try.prog 59 = true := by kernel_rfl
theorem ok60 : callOk Try.prog 60 = true := by kernel_rfl
theorem ok61 : callOk Try.prog 61 = true := by kernel_rfl
theorem ok63 : callOk Try.prog 63 = true := by kernel_rfl
theorem ok64 : callOk Try.prog 64 = true := by kernel_rfl
theorem ok77 : callOk Try.prog 77 = true := by kernel_rfl
theorem ok78 : callOk Try.prog 78 = true := by kernel_rfl
theorem ok84 : callOk Try.prog 84 = true := by kernel_rfl
theorem ok85 : callOk Try.prog 85 = true := by kernel_rfl
theorem ok86 : callOk Try.prog 86 = true := by kernel_rfl
theorem ok87 : callOk Try.prog 87 = true := by kernel_rfl
theorem ok88 : callOk Try.prog 88 = true := by kernel_rfl
theorem ok89 : callOk Try.prog 89 = true := by kernel_rfl
theorem ok90 : callOk Try.prog 90 = true := by kernel_rfl
theorem ok91 : callOk Try.prog 91 = true := by kernel_rfl
theorem ok92 : callOk Try.prog 92 = true := by kernel_rfl
theorem ok93 : callOk Try.prog 93 = true := by kernel_rfl
theorem ok94 : callOk Try.prog 94 = true := by kernel_rfl
theorem ok95 : callOk Try.prog 95 = true := by kernel_rfl
theorem ok96 : callOk Try.prog 96 = true := by kernel_rfl
theorem ok97 : callOk Try.prog 97 = true := by kernel_rfl
theorem ok100 : callOk Try.prog 100 = true := by kernel_rfl
theorem ok101 : callOk Try.prog 101 = true := by kernel_rfl
theorem ok102 : callOk Try.prog 102 = true := by kernel_rfl
theorem ok103 : callOk Try.prog 103 = true := by kernel_rfl
theorem ok104 : callOk Try.prog 104 = true := by kernel_rfl
theorem ok105 : callOk Try.prog 105 = true := by kernel_rfl
theorem ok106 : callOk Try.prog 106 = true := by kernel_rfl
theorem ok107 : callOk Try.prog 107 = true := by kernel_rfl
theorem ok108 : callOk Try.prog 108 = true := by kernel_rfl
theorem ok109 : callOk Try.prog 109 = true := by kernel_rfl
theorem ok110 : callOk Try.prog 110 = true := by kernel_rfl
theorem ok111 : callOk Try.prog 111 = true := by kernel_rfl
theorem ok112 : callOk Try.prog 112 = true := by kernel_rfl
theorem ok113 : callOk Try.prog 113 = true := by kernel_rfl
theorem ok114 : callOk Try.prog 114 = true := by kernel_rfl
theorem ok115 : callOk Try.prog 115 = true := by kernel_rfl
theorem ok116 : callOk Try.prog 116 = true := by kernel_rfl
theorem ok117 : callOk Try.prog 117 = true := by kernel_rfl
theorem ok118 : callOk Try.prog 118 = true := by kernel_rfl
theorem ok119 : callOk Try.prog 119 = true := by kernel_rfl
theorem ok120 : callOk Try.prog 120 = true := by kernel_rfl
theorem ok121 : callOk Try.prog 121 = true := by kernel_rfl
theorem ok122 : callOk Try.prog 122 = true := by kernel_rfl
theorem ok123 : callOk Try.prog 123 = true := by kernel_rfl
theorem ok124 : callOk Try.prog 124 = true := by kernel_rfl
theorem ok125 : callOk Try.prog 125 = true := by kernel_rfl
theorem ok126 : callOk Try.prog 126 = true := by kernel_rfl
theorem ok127 : callOk Try.prog 127 = true := by kernel_rfl
theorem ok128 : callOk Try.prog 128 = true := by kernel_rfl
theorem ok129 : callOk Try.prog 129 = true := by kernel_rfl
theorem ok130 : callOk Try.prog 130 = true := by kernel_rfl
theorem ok131 : callOk Try.prog 131 = true := by kernel_rfl
theorem ok132 : callOk Try.prog 132 = true := by kernel_rfl
theorem ok133 : callOk Try.prog 133 = true := by kernel_rfl
theorem ok134 : callOk Try.prog 134 = true := by kernel_rfl
theorem ok136 : callOk Try.prog 136 = true := by kernel_rfl
theorem ok137 : callOk Try.prog 137 = true := by kernel_rfl
theorem ok138 : callOk Try.prog 138 = true := by kernel_rfl
theorem ok139 : callOk Try.prog 139 = true := by kernel_rfl
theorem ok140 : callOk Try.prog 140 = true := by kernel_rfl
theorem ok141 : callOk Try.prog 141 = true := by kernel_rfl
theorem ok142 : callOk Try.prog 142 = true := by kernel_rfl
theorem ok143 : callOk Try.prog 143 = true := by kernel_rfl
theorem mixed : Try.prog.follows .mixedOrders = true := by kernel_rfl
end Go.Proofs.Ythflnkfghogaoaa

namespace Go.Proofs.Ythflnkfghogaoaa
open Go.Gx Go.RowKit
attribute [local irreducible] wpList wpStill Code.wp Calls
end Go.Proofs.Ythflnkfghogaoaa

namespace Go.Gx
open Go.RowKit
section
variable {P : Program} {Q : Exit → Act → World → Prop} {a : Act} {w : World} {l : List (Nat × Value)} {ops : Array Oper} {rest : List Oper}
variable {d ty xt i : Nat} {p : String} {x : Operand} {v v0 : Value}
theorem op_fieldv {af} (hx : (putsL a l).eval x = v0) (hf : (Instr.field xt v0 i).run P w = .ok v w) (h : wpList P ops Q rest (putsL a ((d, v) :: l)) w) :
    wpList P ops Q (⟨some d, .field xt x i, ty, p, af, none⟩ :: rest) (putsL a l) w :=
  op_gen rfl (by simp [execOp, hx, hf]) h
end
end Go.Gx
namespace Go.Gx
open Go.RowKit
theorem op_index_lit {P : Program} {Q : Exit → Act → World → Prop} {a : Act} {w : World} {l : List (Nat × Value)} {ops : Array Oper} {rest : List Oper} {d ty xt e b : Nat} {p : String} {x y : Operand} {zv : Value} {sz by2 n c i o : Nat} {k : IntKind} {r : Int} {af} (T : SlT P xt e zv sz by2) (hx : (putsL a l).eval x = .slice (some ⟨b, 0, none⟩) n c) (hy : (putsL a l).eval y = .int k r) (hr : r = (i : Int)) (h1 : i < n) (ho : o = i * sz)
    (h : wpList P ops Q rest (putsL a ((d, ptr b o) :: l)) w) : wpList P ops Q (⟨some d, .indexAddr xt x y, ty, p, af, none⟩ :: rest) (putsL a l) w := by
  obtain ⟨inf, hi, hz0, hz1, hz2⟩ := info_parts T.info
  subst hr; subst ho
  refine op_gen (v := ptr b (i * sz)) rfl ?_ h
  have hand : (0 ≤ (i : Int) ∧ (i : Int) < (n : Int)) := by omega
  simp [execOp, hx, hy, Instr.indexAt, asIntOf, run_underlying T.und, sizeOf, typeInfo, hi, ptr, Addr.add_lit, hz1, h1]
end Go.Gx

namespace Go.Gx
open Go.RowKit
section
variable {P : Program} {ol : List Oper} {Q : Exit → Act → World → Prop} {Φ : Nat → Value → World → Prop} {C : Nat → Value → World → Prop} {ch : Chain} {R : World → World → Prop} {a0 : Act} {N : Nat}
end
section
variable {P : Program} {ol : List Oper} {Q : Exit → Act → World → Prop} {Φ : Nat → Value → Prop} {G : World → Prop} {a0 : Act} {N : Nat}
end
end Go.Gx

namespace Go.Gx
open Go.RowKit
section
variable {P : Program} {ol : List Oper} {Q : Exit → Act → World → Prop} {E : Type} {Φ : E → Nat → Value → Prop} {C : E → Nat → World → Prop} {ch : Chain} {a0 : Act} {N : Nat}
def ObNE (P : Program) (ol : List Oper) (Φ : E → Nat → Value → Prop) (C : E → Nat → World → Prop) (a0 : Act) (N : Nat) (i : Nat) (o : Oper) : Prop :=
  ∀ (e : E) (a : Act) (w : World) (c : Nat), a.tmps.size = N → C e c w → (∀ t, safeB ol i t = true → a.tmps.getD t undef = a0.tmps.getD t undef) → (∀ j oj d, depB ol i j = true → ol[j]? = some oj → oj.dst = some d → Φ e j (a.tmps.getD d undef)) →
    wpList P ol.toArray (fun ex a' w' => ex = .normal ∧ (∃ d v, o.dst = some d ∧ a' = putsL a [(d, v)] ∧ Φ e i v) ∧ w.grownBy w' none) [o] (putsL a []) w
def ObCE (P : Program) (ol : List Oper) (Φ : E → Nat → Value → Prop) (C : E → Nat → World → Prop) (a0 : Act) (N : Nat) (c i : Nat) (o : Oper) : Prop :=
  ∀ (e : E) (a : Act) (w : World), a.tmps.size = N → (∀ t, safeB ol i t = true → a.tmps.getD t undef = a0.tmps.getD t undef) → (∀ j oj d, depB ol i j = true → ol[j]? = some oj → oj.dst = some d → Φ e j (a.tmps.getD d undef)) → C e c w →
    wpList P ol.toArray (fun ex a' w' => ex = .normal ∧ ∃ e', (∀ j u, Φ e j u → Φ e' j u) ∧ ((o.dst = none ∧ a' = a) ∨ ∃ d v, o.dst = some d ∧ a' = putsL a [(d, v)] ∧ Φ e' i v) ∧ C e' (c + 1) w') [o] (putsL a []) w
theorem region_env_steps (hlex : lexB' ol = true) (hdn : dstNB ol N = true) (hdst : dstsB ol = true) (hch : ch.okB ol = true) (w0 : World)
    (hC : ∀ e c w1 w2, w1.grownBy w2 none → C e c w1 → C e c w2)
    (obN : ∀ i o, ol[i]? = some o → ch.has i = false → ObNE P ol Φ C a0 N i o) (obC : ∀ c i o, ch.ops[c]? = some i → ol[i]? = some o → ObCE P ol Φ C a0 N c i o)
    (fin : ∀ a w e, RInv ol (fun j u _ => Φ e j u) (fun c _ w => C e c w) ch a0 N w0 (fun _ _ => True) (Array.replicate ol.length true) ch.ops.length a w → Q .normal a w) :
    ∀ (fuel : Nat) (listed : Array Bool) (c : Nat) (a : Act) (w : World) (e : E), RInv ol (fun j u _ => Φ e j u) (fun c _ w => C e c w) ch a0 N w0 (fun _ _ => True) listed c a w → (List.range ol.length).countP (fun i => !listed.getD i true) ≤ fuel → wpAny P .any ol.toArray Q fuel listed a w := by
  have hch' := hch
  simp only [Chain.okB, Bool.and_eq_true] at hch'
  obtain ⟨⟨⟨hc1, hc2⟩, hc3⟩, hc4⟩ := hch'
  have done : ∀ (listed : Array Bool) (c : Nat) (a : Act) (w : World) (e : E), RInv ol (fun j u _ => Φ e j u) (fun c _ w => C e c w) ch a0 N w0 (fun _ _ => True) listed c a w → Region.ready .any ol.toArray listed = [] → Q .normal a w := by
    intro listed c a w ee I hr
    have hall : ∀ i, i < ol.length → listed.getD i true = true := by
      intro i
      induction i using Nat.strongRecOn with
      | _ i ih =>
        intro hi
        by_cases hq : listed.getD i true = true
        · exact hq
        · exfalso
          have hm : i ∈ Region.ready .any ol.toArray listed := by
            rw [mem_ready]
            refine ⟨by simpa using hq, ol[i], by simp [hi], fun e he hb => ?_⟩
            have h1 := List.all_eq_true.1 hlex i (by simp [hi])
            simp only [List.getElem?_eq_getElem hi, Array.all_eq_true_iff_forall_mem, Bool.or_eq_true, Bool.not_eq_true', Nat.blt_eq] at h1
            have h2 := (h1 e he).resolve_left (by simp [hb])
            exact getD_true_lt (ih e.on h2 (by omega)) (by rw [I.lsize]; omega)
          rw [hr] at hm
          cases hm
    have hl : listed = Array.replicate ol.length true := by
      apply Array.ext
      · simp [I.lsize]
      · intro i h1 h2
        have := hall i (by simpa using h2)
        simp [Array.getD_eq_getD_getElem?, h1] at this
        simp [this]
    have hcc : c = ch.ops.length := by
      rcases Nat.lt_or_ge c ch.ops.length with h | h
      · exfalso
        have h1 := (I.chain c ch.ops[c] (by simp [h])).1 (hall _ (by
          have := List.all_eq_true.1 hc3 ch.ops[c] (List.getElem_mem h)
          simpa [Nat.blt_eq] using this))
        omega
      · exact Nat.le_antisymm I.cle h
    subst hl; subst hcc
    exact fin a w ee I
  intro fuel
  induction fuel with
  | zero =>
    intro listed c a w ee I hcnt
    have hr : Region.ready .any ol.toArray listed = [] := by
      rw [List.eq_nil_iff_forall_not_mem]
      intro i hi
      obtain ⟨h1, o, ho, _⟩ := mem_ready.1 hi
      have hlt : i < ol.length := by simpa using (Array.getElem?_eq_some_iff.1 ho).1
      have hz : (List.range ol.length).countP (fun i => !listed.getD i true) = 0 := by omega
      rw [List.countP_eq_zero] at hz
      exact hz i (by simp [hlt]) (by simp [h1])
    exact ⟨hr, done listed c a w ee I hr⟩
  | succ fuel ih =>
    intro listed c a w ee I hcnt
    refine ⟨fun hr => done listed c a w ee I hr, fun i hi => ?_⟩
    obtain ⟨hun, o, ho, hwait⟩ := mem_ready.1 hi
    have ho' : ol[i]? = some o := by simpa using ho
    have hlt : i < ol.length := (List.getElem?_eq_some_iff.1 ho').1
    have hls : i < listed.size := by rw [I.lsize]; exact hlt
    have hcnt' : (List.range ol.length).countP (fun j => !(listed.setIfInBounds i true).getD j true) ≤ fuel := by
      have : (List.range ol.length).countP (fun j => !(listed.setIfInBounds i true).getD j true) < (List.range ol.length).countP (fun j => !listed.getD j true) := by
        refine countP_lt _ _ (fun y hy => ?_) _ i (by simp [hlt]) (by simp [hun]) (by simp [Array.getD_eq_getD_getElem?, hls])
        by_cases hiy : i = y
        · subst hiy; simp [Array.getD_eq_getD_getElem?, hls] at hy
        · rwa [getD_set_ne true hiy] at hy
      omega
    have hbase : ∀ t, safeB ol i t = true → a.tmps.getD t undef = a0.tmps.getD t undef := by
      intro t ht
      refine I.base t fun j oj hj hlj hd => ?_
      have h1 := List.all_eq_true.1 ht oj (List.mem_of_getElem? hj)
      simp only [Bool.or_eq_true, bne_iff_ne, ne_eq, Array.any_eq_true, Bool.and_eq_true, beq_iff_eq] at h1
      rcases h1 with h1 | ⟨q, hq, h1, h2⟩
      · exact h1 hd
      · have := getD_of_false (I.closed j oj hj hlj _ (Array.getElem_mem hq) h2)
        rw [h1, hun] at this
        cases this
    have hdep : ∀ j oj d, depB ol i j = true → ol[j]? = some oj → oj.dst = some d → Φ ee j (a.tmps.getD d undef) := by
      intro j oj d hj hoj hd
      obtain ⟨e, he, h1, h2⟩ := depB_spec ho' hj
      exact I.phi j oj d hoj (getD_of_false (by rw [← h1]; exact hwait e he h2)) hd
    have hset : ∀ j, j ≠ i → (listed.setIfInBounds i true).getD j true = listed.getD j true := fun j hj => getD_set_ne true (Ne.symm hj)
    have hseti : (listed.setIfInBounds i true).getD i true = true := by simp [Array.getD_eq_getD_getElem?, hls]
    have hclosed : ∀ j oj, ol[j]? = some oj → (listed.setIfInBounds i true).getD j true = true → ∀ e ∈ oj.after, Region.binds .any e = true → (listed.setIfInBounds i true).getD e.on false = true := by
      intro j oj hoj hlj e he hb
      refine getD_set_true ?_
      by_cases hji : j = i
      · subst hji
        rw [ho'] at hoj; cases hoj
        exact hwait e he hb
      · rw [hset j hji] at hlj
        exact I.closed j oj hoj hlj e he hb
    have hne : ∀ j oj d, ol[j]? = some oj → j ≠ i → o.dst = some d → oj.dst ≠ some d := by
      intro j oj d hoj hji hd hd'
      have hj : j < ol.length := (List.getElem?_eq_some_iff.1 hoj).1
      have h1 := List.all_eq_true.1 (List.all_eq_true.1 hdst i (by simp [hlt])) j (by simp [hj])
      simp only [ho', hoj, Bool.or_eq_true, beq_iff_eq, bne_iff_ne, ne_eq] at h1
      rcases h1 with h1 | h1 | h1
      · exact hji h1.symm
      · exact h1 (by rw [hd, hd'])
      · rw [hd] at h1; cases h1
    -- what is left of the frame, behind a value in slot d
    have hframe : ∀ d v (e' : E), o.dst = some d → (∀ j u, Φ ee j u → Φ e' j u) → Φ e' i v → 
        (∀ t, (∀ j oj, ol[j]? = some oj → (listed.setIfInBounds i true).getD j true = true → oj.dst ≠ some t) → (putsL a [(d, v)]).tmps.getD t undef = a0.tmps.getD t undef) ∧
        (∀ j oj d', ol[j]? = some oj → (listed.setIfInBounds i true).getD j true = true → oj.dst = some d' → Φ e' j ((putsL a [(d, v)]).tmps.getD d' undef)) := by
      intro d v e' hd hR hv
      have hdN : d < a.tmps.size := by
        have h1 := List.all_eq_true.1 hdn o (List.mem_of_getElem? ho')
        simp only [hd, Nat.blt_eq] at h1
        rw [I.size]; exact h1
      refine ⟨fun t ht => ?_, fun j oj d' hoj hlj hd' => ?_⟩
      · have hdt : d ≠ t := fun e => ht i o ho' hseti (by rw [hd, e])
        rw [get_put_ne hdt]
        refine I.base t fun j oj hoj hlj => ?_
        by_cases hji : j = i
        · subst hji; rw [hun] at hlj; cases hlj
        · exact ht j oj hoj (by rw [hset j hji]; exact hlj)
      · by_cases hji : j = i
        · subst hji
          rw [ho'] at hoj; cases hoj
          rw [hd] at hd'; cases hd'
          rw [get_put_eq hdN]
          exact hv
        · rw [hset j hji] at hlj
          have : d ≠ d' := fun e => hne j oj d hoj hji hd (by rw [hd', e])
          rw [get_put_ne this]
          exact hR j _ (I.phi j oj d' hoj hlj hd')
    by_cases hin : ch.has i = true
    · have hmem : i ∈ ch.ops := by simpa [Chain.has] using hin
      obtain ⟨c0, hc0, hci⟩ := List.getElem_of_mem hmem
      have hci' : ch.ops[c0]? = some i := by simp [hc0, hci]
      have hcc : c0 = c := by
        have h1 : ¬ c0 < c := fun h => by
          have := (I.chain c0 i hci').2 h
          rw [hun] at this; cases this
        rcases Nat.lt_or_ge c c0 with h2 | h2
        · exfalso
          have h3 := List.all_eq_true.1 hc1 c0 (by simp [hc0])
          have hz : (c0 == 0) = false := by simp; omega
          have hp : ch.ops.getD (c0 - 1) 0 = ch.ops[c0 - 1] := by simp [List.getD_eq_getElem?_getD, show c0 - 1 < ch.ops.length by omega]
          have hq : ch.ops.getD c0 0 = i := by simp [List.getD_eq_getElem?_getD, hc0, hci]
          rw [hz, hp, hq, Bool.false_or] at h3
          obtain ⟨e, he, h4, h5⟩ := depB_spec ho' h3
          have h6 := getD_of_false (hwait e he h5)
          rw [h4] at h6
          have := (I.chain (c0 - 1) ch.ops[c0 - 1] (by simp [show c0 - 1 < ch.ops.length by omega])).1 h6
          omega
        · omega
      subst hcc
      refine wp_one (by simpa using ho') (obC c0 i o hci' ho' ee a w I.size hbase hdep I.chainC) fun a' w' h => ?_
      obtain ⟨e', hm, h1, h2⟩ := h
      have hchain : ∀ m i', ch.ops[m]? = some i' → ((listed.setIfInBounds i true).getD i' true = true ↔ m < c0 + 1) := by
        intro m i' hm
        by_cases hii : i' = i
        · subst hii
          have : m = c0 := by
            have hnd : ch.ops.Nodup := of_decide_eq_true hc4
            have hmlt : m < ch.ops.length := (List.getElem?_eq_some_iff.1 hm).1
            exact (List.getElem?_inj hmlt hnd).1 (by rw [hm, hci'])
          exact ⟨fun _ => by omega, fun _ => hseti⟩
        · rw [hset i' hii, I.chain m i' hm]
          refine ⟨fun h => by omega, fun h => ?_⟩
          rcases Nat.lt_or_ge m c0 with h' | h'
          · exact h'
          · have : m = c0 := by omega
            subst this
            rw [hci'] at hm; exact absurd (Option.some.inj hm).symm hii
      refine ih _ (c0 + 1) a' w' e' ?_ hcnt'
      rcases h1 with ⟨hd, rfl⟩ | ⟨d, v, hd, rfl, hv⟩
      · refine ⟨I.size, I.defers, fun t ht => ?_, fun j oj d' hoj hlj hd' => ?_, hclosed, by simp [I.lsize], by omega, hchain, h2, trivial⟩
        · refine I.base t fun j oj hoj hlj => ?_
          by_cases hji : j = i
          · subst hji; rw [hun] at hlj; cases hlj
          · exact ht j oj hoj (by rw [hset j hji]; exact hlj)
        · by_cases hji : j = i
          · subst hji
            rw [ho'] at hoj; cases hoj
            rw [hd] at hd'; cases hd'
          · rw [hset j hji] at hlj
            exact hm j _ (I.phi j oj d' hoj hlj hd')
      · obtain ⟨f1, f2⟩ := hframe d v e' hd hm hv
        exact ⟨by rw [putsL_size, I.size], by rw [putsL_defers, I.defers], f1, f2, hclosed, by simp [I.lsize], by omega, hchain, h2, trivial⟩
    · have hin' : ch.has i = false := by simpa using hin
      refine wp_one (by simpa using ho') (obN i o ho' hin' ee a w c I.size I.chainC hbase hdep) fun a' w' h => ?_
      obtain ⟨⟨d, v, hd, rfl, hv⟩, hg⟩ := h
      obtain ⟨f1, f2⟩ := hframe d v ee hd (fun _ _ h => h) hv
      refine ih _ c _ w' ee ⟨by rw [putsL_size, I.size], by rw [putsL_defers, I.defers], f1, f2, hclosed, by simp [I.lsize], I.cle, ?_, hC _ _ w w' hg I.chainC, trivial⟩ hcnt'
      · intro m i' hm
        have hii : i' ≠ i := by
          rintro rfl
          have : ch.has i' = true := by simpa [Chain.has] using List.mem_of_getElem? hm
          rw [hin'] at this; cases this
        rw [hset i' hii]
        exact I.chain m i' hm
end

section
variable {P : Program} {ol : List Oper} {Q : Exit → Act → World → Prop} {ops : List Nat} {φ : Nat → Value → Prop} {G : World → Prop} {a0 : Act} {N : Nat}
def PhE (ops : List Nat) (φ : Nat → Value → Prop) (e : List Value) (j : Nat) (u : Value) : Prop := (∀ c : Nat, ops[c]? = some j → e[c]? = some u) ∧ (ops.contains j = false → φ j u)
theorem PhE.mono {e : List Value} {v : Value} {j : Nat} {u : Value} (h : PhE ops φ e j u) : PhE ops φ (e ++ [v]) j u :=
  ⟨fun c hc => by have h1 := h.1 c hc; have hl := (List.getElem?_eq_some_iff.1 h1).1; rw [List.getElem?_append_left hl]; exact h1, h.2⟩
theorem PhE.light {j : Nat} {e : List Value} {u : Value} (hh : ops.contains j = false) (h : φ j u) : PhE ops φ e j u :=
  ⟨fun c hc => by have : ops.contains j = true := by simpa using List.mem_of_getElem? hc
                  exact absurd (this.symm.trans hh) (by decide), fun _ => h⟩
def KE (P : Program) (ol : List Oper) (ops : List Nat) (φ : Nat → Value → Prop) (G : World → Prop) (a0 : Act) (N : Nat) (Q : Exit → Act → World → Prop) : List Nat → List Value → World → Prop
  | [], e, w => ∀ w1, w.grownBy w1 none → ∀ a', a'.tmps.size = N → a'.defers = a0.defers → (∀ t, (ol.all fun o => o.dst != some t) = true → a'.tmps.getD t undef = a0.tmps.getD t undef) →
      (∀ j oj d, ol[j]? = some oj → oj.dst = some d → PhE ops φ e j (a'.tmps.getD d undef)) → Q .normal (putsL a' []) w1
  | i :: r, e, w => ∀ w1, w.grownBy w1 none → G w1 → ∀ a, a.tmps.size = N → (∀ t, safeB ol i t = true → a.tmps.getD t undef = a0.tmps.getD t undef) → (∀ j oj d, depB ol i j = true → ol[j]? = some oj → oj.dst = some d → PhE ops φ e j (a.tmps.getD d undef)) →
      ∀ o, ol[i]? = some o → wpList P ol.toArray (fun ex a' w' => ex = .normal ∧ ∃ e', (∀ j u, PhE ops φ e j u → PhE ops φ e' j u) ∧ ((o.dst = none ∧ a' = a) ∨ ∃ d v, o.dst = some d ∧ a' = putsL a [(d, v)] ∧ PhE ops φ e' i v) ∧ (e'.length = e.length + 1 ∧ KE P ol ops φ G a0 N Q r e' w' ∧ G w')) [o] (putsL a []) w1
theorem KE.stable : ∀ {rs : List Nat} {e : List Value} {w w2 : World}, KE P ol ops φ G a0 N Q rs e w → w.grownBy w2 none → KE P ol ops φ G a0 N Q rs e w2
  | [], _, _, _, h, E => fun w1 E1 => h w1 (grown_trans E E1)
  | _ :: _, _, _, _, h, E => fun w1 E1 => h w1 (grown_trans E E1)
def ObE (P : Program) (ol : List Oper) (ops : List Nat) (φ : Nat → Value → Prop) (G : World → Prop) (a0 : Act) (N : Nat) (i : Nat) (o : Oper) : Prop :=
  ∀ (e : List Value) (a : Act) (w : World), a.tmps.size = N → G w → (∀ t, safeB ol i t = true → a.tmps.getD t undef = a0.tmps.getD t undef) → (∀ j oj d, depB ol i j = true → ol[j]? = some oj → oj.dst = some d → PhE ops φ e j (a.tmps.getD d undef)) →
    wpList P ol.toArray (fun ex a' w' => ex = .normal ∧ (∃ d v, o.dst = some d ∧ a' = putsL a [(d, v)] ∧ PhE ops φ e i v) ∧ w.grownBy w' none) [o] (putsL a []) w
def ObEs (P : Program) (ol : List Oper) (ops : List Nat) (φ : Nat → Value → Prop) (G : World → Prop) (a0 : Act) (N : Nat) : Nat → List Oper → Prop
  | _, [] => True
  | i, o :: r => (ops.contains i = false → ObE P ol ops φ G a0 N i o) ∧ ObEs P ol ops φ G a0 N (i + 1) r
theorem ObEs.nil {i : Nat} : ObEs P ol ops φ G a0 N i [] := trivial
theorem ObEs.cons {i : Nat} {o : Oper} {r : List Oper} (h : ObE P ol ops φ G a0 N i o) (h' : ObEs P ol ops φ G a0 N (i + 1) r) : ObEs P ol ops φ G a0 N i (o :: r) := ⟨fun _ => h, h'⟩
theorem ObEs.pass {i : Nat} {o : Oper} {r : List Oper} (hh : ops.contains i = true) (h' : ObEs P ol ops φ G a0 N (i + 1) r) : ObEs P ol ops φ G a0 N i (o :: r) := ⟨fun h => absurd (hh.symm.trans h) (by decide), h'⟩
theorem ObEs.getx : ∀ {l : List Oper} {i : Nat}, ObEs P ol ops φ G a0 N i l → ∀ j o, l[j]? = some o → ops.contains (i + j) = false → ObE P ol ops φ G a0 N (i + j) o
  | [], _, _, j, o, h, _ => by simp at h
  | o' :: r, i, h, 0, o, hj, hs => by simp at hj; subst hj; exact h.1 hs
  | o' :: r, i, h, j + 1, o, hj, hs => by
    have := ObEs.getx h.2 j o (by simpa using hj) (by rwa [show i + 1 + j = i + (j + 1) by omega])
    rwa [show i + 1 + j = i + (j + 1) by omega] at this
theorem any_env (ops : List Nat) (hlex : lexB' ol = true) (hdn : dstNB ol N = true) (hdst : dstsB ol = true) (hch : (⟨ops, fun _ => N⟩ : Chain).okB ol = true)
    {l : List (Nat × Value)} {w : World} (hN : a0.tmps.size = N) (hG : ∀ w1 w2, w1.grownBy w2 none → G w1 → G w2) (g0 : G w) (obL : ObEs P ol ops φ G (putsL a0 l) N 0 ol) (hdf : (putsL a0 l).defers = a0.defers)
    (main : KE P ol ops φ G (putsL a0 l) N Q ops [] w) : RegAny P ol Q (putsL a0 l) w := by
  have hnd : ops.Nodup := by
    have h := hch; simp only [Chain.okB, Bool.and_eq_true] at h; exact of_decide_eq_true h.2
  have hd : w.grownBy { w with drawn := w.drawn + 1 } none := ⟨rfl, rfl, rfl, Nat.le_refl _, fun _ _ _ => rfl⟩
  have I : RInv ol (fun j u _ => PhE ops φ [] j u) (fun c _ w => ([] : List Value).length = c ∧ KE P ol ops φ G (putsL a0 l) N Q (ops.drop c) [] w ∧ G w) ⟨ops, fun _ => N⟩ (putsL a0 l) N w (fun _ _ => True) (Array.replicate ol.length false) 0 (putsL a0 l) { w with drawn := w.drawn + 1 } := by
    refine ⟨slN hN, rfl, fun _ _ => rfl, fun j o d hj hl => ?_, fun j o hj hl => ?_, by simp, Nat.zero_le _, fun m i hm => ?_, ⟨rfl, main.stable hd, hG _ _ hd g0⟩, trivial⟩
    · have : j < ol.length := (List.getElem?_eq_some_iff.1 hj).1
      simp [Array.getD_eq_getD_getElem?, this] at hl
    · have : j < ol.length := (List.getElem?_eq_some_iff.1 hj).1
      simp [Array.getD_eq_getD_getElem?, this] at hl
    · have h3 : i < ol.length := by
        have hch' := hch
        simp only [Chain.okB, Bool.and_eq_true] at hch'
        have := List.all_eq_true.1 hch'.1.2 i (List.mem_of_getElem? hm)
        simpa [Nat.blt_eq] using this
      simp [Array.getD_eq_getD_getElem?, h3]
  have := region_env_steps (P := P) (Q := Q) (E := List Value) (Φ := fun e j u => PhE ops φ e j u) (C := fun e c w => e.length = c ∧ KE P ol ops φ G (putsL a0 l) N Q (ops.drop c) e w ∧ G w) (ch := ⟨ops, fun _ => N⟩) hlex hdn hdst hch w
    (fun e c w1 w2 E1 h => ⟨h.1, h.2.1.stable E1, hG _ _ E1 h.2.2⟩)
    (fun i o hi hh e a w1 c h1 h2 h3 h4 => by
      have hh' : ops.contains i = false := hh
      have h5 := ObEs.getx obL i o hi (by rw [Nat.zero_add]; exact hh') e a w1 h1 h2.2.2 (by rw [Nat.zero_add]; exact h3) (by rw [Nat.zero_add]; exact h4)
      rw [Nat.zero_add] at h5; exact h5)
    (fun c i o hc hi e a w1 h1 h2 h3 h4 => by
      obtain ⟨hl, hk, hg⟩ := h4
      have hdr : ops.drop c = i :: ops.drop (c + 1) := by
        have hlt : c < ops.length := (List.getElem?_eq_some_iff.1 hc).1
        rw [List.drop_eq_getElem_cons hlt, (List.getElem?_eq_some_iff.1 hc).2]
      rw [hdr] at hk
      subst hl
      exact hk w1 (grown_refl _ _) hg a h1 h2 h3 o hi)
    (fun a' w' e J => by
      have hk := J.chainC.2.1
      rw [List.drop_of_length_le (Nat.le_refl _)] at hk
      exact hk w' (grown_refl _ _) a' J.size (J.defers) (fun t ht => J.base t fun j o hj _ hd' => by
        have := List.all_eq_true.1 ht o (List.mem_of_getElem? hj)
        simp [hd'] at this) (fun j oj d hj hd' => J.phi j oj d hj (by
        have : j < ol.length := (List.getElem?_eq_some_iff.1 hj).1
        simp [Array.getD_eq_getD_getElem?, this]) hd'))
    ol.length (Array.replicate ol.length false) 0 (putsL a0 l) _ [] I (Nat.le_trans (List.countP_le_length) (by simp))
  exact this
theorem ke_end {o : Oper} {i d : Nat} {v : Value} {a : Act} {w : World} {e : List Value} {r : List Nat} (hi : ops[e.length]? = some i) (hnd : ops.Nodup) (hd : o.dst = some d) (g : G w) (h : KE P ol ops φ G a0 N Q r (e ++ [v]) w) :
    wpList P ol.toArray (fun ex a' w' => ex = .normal ∧ ∃ e', (∀ j u, PhE ops φ e j u → PhE ops φ e' j u) ∧ ((o.dst = none ∧ a' = a) ∨ ∃ d v, o.dst = some d ∧ a' = putsL a [(d, v)] ∧ PhE ops φ e' i v) ∧ (e'.length = e.length + 1 ∧ KE P ol ops φ G a0 N Q r e' w' ∧ G w')) [] (putsL a [(d, v)]) w :=
  ⟨rfl, e ++ [v], fun _ _ h => h.mono, .inr ⟨d, v, hd, rfl, fun c' hc' => by
    have : c' = e.length := (List.getElem?_inj (List.getElem?_eq_some_iff.1 hc').1 hnd).1 (by rw [hc', hi])
    subst this; simp, fun hh => by
    have : ops.contains i = true := by simpa using List.mem_of_getElem? hi
    exact absurd (this.symm.trans hh) (by decide)⟩, by simp, h, g⟩
theorem obE_end {o : Oper} {i d : Nat} {v : Value} {a : Act} {w : World} {e : List Value} (hh : ops.contains i = false) (hd : o.dst = some d) (hv : φ i v) :
    wpList P ol.toArray (fun ex a' w' => ex = .normal ∧ (∃ d v, o.dst = some d ∧ a' = putsL a [(d, v)] ∧ PhE ops φ e i v) ∧ w.grownBy w' none) [] (putsL a [(d, v)]) w := ⟨rfl, ⟨d, v, hd, rfl, PhE.light hh hv⟩, grown_refl _ _⟩
end
end Go.Gx

namespace Go.Gx
open Go.RowKit
section
variable {P : Program} {ol : List Oper} {Q : Exit → Act → World → Prop} {bigs : List Nat} {φ : Nat → Value → Prop} {G : World → Prop} {a0 : Act} {N : Nat}
def PhT (bigs : List Nat) (φ : Nat → Value → Prop) (e : List (Nat × Value)) (j : Nat) (u : Value) : Prop := (bigs.contains j = true → e.lookup j = some u) ∧ (bigs.contains j = false → φ j u)
theorem PhT.mono {e : List (Nat × Value)} {i j : Nat} {v u : Value} (hij : j ≠ i) (h : PhT bigs φ e j u) : PhT bigs φ ((i, v) :: e) j u :=
  ⟨fun hb => by rw [List.lookup_cons, beq_false_of_ne hij]; exact h.1 hb, h.2⟩
structure TInv (ol : List Oper) (bigs : List Nat) (φ : Nat → Value → Prop) (a0 : Act) (N : Nat) (listed : Array Bool) (todo : List Nat) (e : List (Nat × Value)) (a : Act) : Prop where
  size : a.tmps.size = N
  defers : a.defers = a0.defers
  base : ∀ t, (∀ j o, ol[j]? = some o → listed.getD j true = true → o.dst ≠ some t) → a.tmps.getD t undef = a0.tmps.getD t undef
  phi : ∀ j o d, ol[j]? = some o → listed.getD j true = true → o.dst = some d → PhT bigs φ e j (a.tmps.getD d undef)
  closed : ∀ j o, ol[j]? = some o → listed.getD j true = true → ∀ x ∈ o.after, Region.binds .any x = true → listed.getD x.on false = true
  lsize : listed.size = ol.length
  todos : ∀ i, i ∈ todo ↔ i ∈ bigs ∧ listed.getD i true = false
  nodup : List.Nodup todo
def KI (P : Program) (ol : List Oper) (bigs : List Nat) (φ : Nat → Value → Prop) (G : World → Prop) (a0 : Act) (N : Nat) (e : List (Nat × Value)) (i : Nat) (w : World) (K : Value → World → Prop) : Prop :=
  ∀ w1, w.grownBy w1 none → G w1 → ∀ a, a.tmps.size = N → (∀ t, safeB ol i t = true → a.tmps.getD t undef = a0.tmps.getD t undef) → (∀ j oj d, depB ol i j = true → ol[j]? = some oj → oj.dst = some d → PhT bigs φ e j (a.tmps.getD d undef)) →
    ∀ o, ol[i]? = some o → wpList P ol.toArray (fun ex a' w' => ex = .normal ∧ ∃ v, ((o.dst = none ∧ a' = a) ∨ ∃ d, o.dst = some d ∧ a' = putsL a [(d, v)]) ∧ K v w' ∧ G w') [o] (putsL a []) w1
def readyT (ol : List Oper) (todo : List Nat) : List Nat := todo.filter fun i => todo.all fun j => !depB ol i j
def KT (P : Program) (ol : List Oper) (bigs : List Nat) (φ : Nat → Value → Prop) (G : World → Prop) (a0 : Act) (N : Nat) (Q : Exit → Act → World → Prop) : Nat → List Nat → List (Nat × Value) → World → Prop
  | 0, _, e, w => ∀ w1, w.grownBy w1 none → ∀ a', a'.tmps.size = N → a'.defers = a0.defers → (∀ t, (ol.all fun o => o.dst != some t) = true → a'.tmps.getD t undef = a0.tmps.getD t undef) →
      (∀ j oj d, ol[j]? = some oj → oj.dst = some d → PhT bigs φ e j (a'.tmps.getD d undef)) → Q .normal (putsL a' []) w1
  | n + 1, todo, e, w => ∀ i ∈ readyT ol todo, KI P ol bigs φ G a0 N e i w fun v w' => KT P ol bigs φ G a0 N Q n (todo.erase i) ((i, v) :: e) w'
theorem KT.stable : ∀ {n : Nat} {todo : List Nat} {e : List (Nat × Value)} {w w2 : World}, KT P ol bigs φ G a0 N Q n todo e w → w.grownBy w2 none → KT P ol bigs φ G a0 N Q n todo e w2
  | 0, _, _, _, _, h, E => fun w1 E1 => h w1 (grown_trans E E1)
  | _ + 1, _, _, _, _, h, E => fun i hi w1 E1 => h i hi w1 (grown_trans E E1)
def ObR9 (P : Program) (ol : List Oper) (bigs : List Nat) (φ : Nat → Value → Prop) (G : World → Prop) (a0 : Act) (N : Nat) (i : Nat) (o : Oper) : Prop :=
  ∀ (e : List (Nat × Value)) (a : Act) (w : World), a.tmps.size = N → G w → (∀ t, safeB ol i t = true → a.tmps.getD t undef = a0.tmps.getD t undef) → (∀ j oj d, depB ol i j = true → ol[j]? = some oj → oj.dst = some d → PhT bigs φ e j (a.tmps.getD d undef)) →
    wpList P ol.toArray (fun ex a' w' => ex = .normal ∧ (∃ d v, o.dst = some d ∧ a' = putsL a [(d, v)] ∧ φ i v) ∧ w.grownBy w' none) [o] (putsL a []) w
def ObRs9 (P : Program) (ol : List Oper) (bigs : List Nat) (φ : Nat → Value → Prop) (G : World → Prop) (a0 : Act) (N : Nat) : Nat → List Oper → Prop
  | _, [] => True
  | i, o :: r => (bigs.contains i = false → ObR9 P ol bigs φ G a0 N i o) ∧ ObRs9 P ol bigs φ G a0 N (i + 1) r
theorem ObRs9.nil {i : Nat} : ObRs9 P ol bigs φ G a0 N i [] := trivial
theorem ObRs9.cons {i : Nat} {o : Oper} {r : List Oper} (h : ObR9 P ol bigs φ G a0 N i o) (h' : ObRs9 P ol bigs φ G a0 N (i + 1) r) : ObRs9 P ol bigs φ G a0 N i (o :: r) := ⟨fun _ => h, h'⟩
theorem ObRs9.pass {i : Nat} {o : Oper} {r : List Oper} (hh : bigs.contains i = true) (h' : ObRs9 P ol bigs φ G a0 N (i + 1) r) : ObRs9 P ol bigs φ G a0 N i (o :: r) := ⟨fun h => absurd (hh.symm.trans h) (by decide), h'⟩
theorem ObRs9.getx : ∀ {l : List Oper} {i : Nat}, ObRs9 P ol bigs φ G a0 N i l → ∀ j o, l[j]? = some o → bigs.contains (i + j) = false → ObR9 P ol bigs φ G a0 N (i + j) o
  | [], _, _, j, o, h, _ => by simp at h
  | o' :: r, i, h, 0, o, hj, hs => by simp at hj; subst hj; exact h.1 hs
  | o' :: r, i, h, j + 1, o, hj, hs => by
    have := ObRs9.getx h.2 j o (by simpa using hj) (by rwa [show i + 1 + j = i + (j + 1) by omega])
    rwa [show i + 1 + j = i + (j + 1) by omega] at this
theorem region_tree_steps (hlex : lexB' ol = true) (hdn : dstNB ol N = true) (hdst : dstsB ol = true) (hbl : (bigs.all fun i => Nat.blt i ol.length) = true)
    (hG : ∀ w1 w2, w1.grownBy w2 none → G w1 → G w2) (obL : ∀ i o, ol[i]? = some o → bigs.contains i = false → ObR9 P ol bigs φ G a0 N i o) :
    ∀ (fuel : Nat) (listed : Array Bool) (todo : List Nat) (e : List (Nat × Value)) (a : Act) (w : World), TInv ol bigs φ a0 N listed todo e a → KT P ol bigs φ G a0 N Q todo.length todo e w → G w → (List.range ol.length).countP (fun i => !listed.getD i true) ≤ fuel → wpAny P .any ol.toArray Q fuel listed a w := by
  have done : ∀ (listed : Array Bool) (todo : List Nat) (e : List (Nat × Value)) (a : Act) (w : World), TInv ol bigs φ a0 N listed todo e a → KT P ol bigs φ G a0 N Q todo.length todo e w → Region.ready .any ol.toArray listed = [] → Q .normal a w := by
    intro listed todo ee a w I hk hr
    have hall : ∀ i, i < ol.length → listed.getD i true = true := by
      intro i
      induction i using Nat.strongRecOn with
      | _ i ih =>
        intro hi
        by_cases hq : listed.getD i true = true
        · exact hq
        · exfalso
          have hm : i ∈ Region.ready .any ol.toArray listed := by
            rw [mem_ready]
            refine ⟨by simpa using hq, ol[i], by simp [hi], fun e he hb => ?_⟩
            have h1 := List.all_eq_true.1 hlex i (by simp [hi])
            simp only [List.getElem?_eq_getElem hi, Array.all_eq_true_iff_forall_mem, Bool.or_eq_true, Bool.not_eq_true', Nat.blt_eq] at h1
            have h2 := (h1 e he).resolve_left (by simp [hb])
            exact getD_true_lt (ih e.on h2 (by omega)) (by rw [I.lsize]; omega)
          rw [hr] at hm
          cases hm
    have ht : todo = [] := by
      rw [List.eq_nil_iff_forall_not_mem]
      intro i hi
      obtain ⟨hb, hl⟩ := (I.todos i).1 hi
      have := List.all_eq_true.1 hbl i hb
      rw [hall i (by simpa [Nat.blt_eq] using this)] at hl
      cases hl
    subst ht
    exact hk w (grown_refl _ _) a I.size I.defers (fun t ht => I.base t fun j o hj _ hd' => by
      have := List.all_eq_true.1 ht o (List.mem_of_getElem? hj)
      simp [hd'] at this) (fun j oj d hj hd' => I.phi j oj d hj (hall j (List.getElem?_eq_some_iff.1 hj).1) hd')
  intro fuel
  induction fuel with
  | zero =>
    intro listed todo ee a w I hk hg hcnt
    have hr : Region.ready .any ol.toArray listed = [] := by
      rw [List.eq_nil_iff_forall_not_mem]
      intro i hi
      obtain ⟨h1, o, ho, _⟩ := mem_ready.1 hi
      have hlt : i < ol.length := by simpa using (Array.getElem?_eq_some_iff.1 ho).1
      have hz : (List.range ol.length).countP (fun i => !listed.getD i true) = 0 := by omega
      rw [List.countP_eq_zero] at hz
      exact hz i (by simp [hlt]) (by simp [h1])
    exact ⟨hr, done listed todo ee a w I hk hr⟩
  | succ fuel ih =>
    intro listed todo ee a w I hk hg hcnt
    refine ⟨fun hr => done listed todo ee a w I hk hr, fun i hi => ?_⟩
    obtain ⟨hun, o, ho, hwait⟩ := mem_ready.1 hi
    have ho' : ol[i]? = some o := by simpa using ho
    have hlt : i < ol.length := (List.getElem?_eq_some_iff.1 ho').1
    have hls : i < listed.size := by rw [I.lsize]; exact hlt
    have hcnt' : (List.range ol.length).countP (fun j => !(listed.setIfInBounds i true).getD j true) ≤ fuel := by
      have : (List.range ol.length).countP (fun j => !(listed.setIfInBounds i true).getD j true) < (List.range ol.length).countP (fun j => !listed.getD j true) := by
        refine countP_lt _ _ (fun y hy => ?_) _ i (by simp [hlt]) (by simp [hun]) (by simp [Array.getD_eq_getD_getElem?, hls])
        by_cases hiy : i = y
        · subst hiy; simp [Array.getD_eq_getD_getElem?, hls] at hy
        · rwa [getD_set_ne true hiy] at hy
      omega
    have hbase : ∀ t, safeB ol i t = true → a.tmps.getD t undef = a0.tmps.getD t undef := by
      intro t ht
      refine I.base t fun j oj hj hlj hd => ?_
      have h1 := List.all_eq_true.1 ht oj (List.mem_of_getElem? hj)
      simp only [Bool.or_eq_true, bne_iff_ne, ne_eq, Array.any_eq_true, Bool.and_eq_true, beq_iff_eq] at h1
      rcases h1 with h1 | ⟨q, hq, h1, h2⟩
      · exact h1 hd
      · have := getD_of_false (I.closed j oj hj hlj _ (Array.getElem_mem hq) h2)
        rw [h1, hun] at this
        cases this
    have hdep : ∀ j oj d, depB ol i j = true → ol[j]? = some oj → oj.dst = some d → PhT bigs φ ee j (a.tmps.getD d undef) := by
      intro j oj d hj hoj hd
      obtain ⟨e, he, h1, h2⟩ := depB_spec ho' hj
      exact I.phi j oj d hoj (getD_of_false (by rw [← h1]; exact hwait e he h2)) hd
    have hset : ∀ j, j ≠ i → (listed.setIfInBounds i true).getD j true = listed.getD j true := fun j hj => getD_set_ne true (Ne.symm hj)
    have hseti : (listed.setIfInBounds i true).getD i true = true := by simp [Array.getD_eq_getD_getElem?, hls]
    have hclosed : ∀ j oj, ol[j]? = some oj → (listed.setIfInBounds i true).getD j true = true → ∀ e ∈ oj.after, Region.binds .any e = true → (listed.setIfInBounds i true).getD e.on false = true := by
      intro j oj hoj hlj e he hb
      refine getD_set_true ?_
      by_cases hji : j = i
      · subst hji
        rw [ho'] at hoj; cases hoj
        exact hwait e he hb
      · rw [hset j hji] at hlj
        exact I.closed j oj hoj hlj e he hb
    have hne : ∀ j oj d, ol[j]? = some oj → j ≠ i → o.dst = some d → oj.dst ≠ some d := by
      intro j oj d hoj hji hd hd'
      have hj : j < ol.length := (List.getElem?_eq_some_iff.1 hoj).1
      have h1 := List.all_eq_true.1 (List.all_eq_true.1 hdst i (by simp [hlt])) j (by simp [hj])
      simp only [ho', hoj, Bool.or_eq_true, beq_iff_eq, bne_iff_ne, ne_eq] at h1
      rcases h1 with h1 | h1 | h1
      · exact hji h1.symm
      · exact h1 (by rw [hd, hd'])
      · rw [hd] at h1; cases h1
    -- what is left of the frame, behind a value in slot d
    have hframe : ∀ d v (e' : List (Nat × Value)), o.dst = some d → (∀ j u, j ≠ i → PhT bigs φ ee j u → PhT bigs φ e' j u) → PhT bigs φ e' i v → 
        (∀ t, (∀ j oj, ol[j]? = some oj → (listed.setIfInBounds i true).getD j true = true → oj.dst ≠ some t) → (putsL a [(d, v)]).tmps.getD t undef = a0.tmps.getD t undef) ∧
        (∀ j oj d', ol[j]? = some oj → (listed.setIfInBounds i true).getD j true = true → oj.dst = some d' → PhT bigs φ e' j ((putsL a [(d, v)]).tmps.getD d' undef)) := by
      intro d v e' hd hR hv
      have hdN : d < a.tmps.size := by
        have h1 := List.all_eq_true.1 hdn o (List.mem_of_getElem? ho')
        simp only [hd, Nat.blt_eq] at h1
        rw [I.size]; exact h1
      refine ⟨fun t ht => ?_, fun j oj d' hoj hlj hd' => ?_⟩
      · have hdt : d ≠ t := fun e => ht i o ho' hseti (by rw [hd, e])
        rw [get_put_ne hdt]
        refine I.base t fun j oj hoj hlj => ?_
        by_cases hji : j = i
        · subst hji; rw [hun] at hlj; cases hlj
        · exact ht j oj hoj (by rw [hset j hji]; exact hlj)
      · by_cases hji : j = i
        · subst hji
          rw [ho'] at hoj; cases hoj
          rw [hd] at hd'; cases hd'
          rw [get_put_eq hdN]
          exact hv
        · rw [hset j hji] at hlj
          have : d ≠ d' := fun e => hne j oj d hoj hji hd (by rw [hd', e])
          rw [get_put_ne this]
          exact hR j _ hji (I.phi j oj d' hoj hlj hd')
    by_cases hin : bigs.contains i = true
    · have hmem : i ∈ bigs := by simpa using hin
      have hit : i ∈ todo := (I.todos i).2 ⟨hmem, hun⟩
      have hrt : i ∈ readyT ol todo := by
        unfold readyT
        rw [List.mem_filter]
        refine ⟨hit, List.all_eq_true.2 fun j hj => ?_⟩
        cases hd : depB ol i j with
        | false => rfl
        | true =>
          obtain ⟨x, hx, h1, h2⟩ := depB_spec ho' hd
          have h3 := getD_of_false (hwait x hx h2)
          rw [h1, ((I.todos j).1 hj).2] at h3
          cases h3
      obtain ⟨n, hn⟩ : ∃ n, todo.length = n + 1 := ⟨todo.length - 1, by have := List.length_pos_of_mem hit; omega⟩
      have hn2 : (todo.erase i).length = n := by rw [List.length_erase_of_mem hit, hn]; rfl
      rw [hn] at hk
      have h0 := hk i hrt w (grown_refl _ _) hg a I.size hbase hdep o ho'
      refine wp_one (by simpa using ho') h0 fun a' w' h => ?_
      obtain ⟨v, h1, h2, h3⟩ := h
      have htodo : ∀ x, x ∈ todo.erase i ↔ x ∈ bigs ∧ (listed.setIfInBounds i true).getD x true = false := by
        intro x
        rw [I.nodup.mem_erase_iff, I.todos]
        by_cases hxi : x = i
        · subst hxi; simp [hseti]
        · rw [hset x hxi]; simp [hxi]
      refine ih _ (todo.erase i) ((i, v) :: ee) a' w' ?_ (by rw [hn2]; exact h2) h3 hcnt'
      have hpi : PhT bigs φ ((i, v) :: ee) i v := ⟨fun _ => by simp, fun hh => absurd (hin.symm.trans hh) (by decide)⟩
      rcases h1 with ⟨hd, rfl⟩ | ⟨d, hd, rfl⟩
      · refine ⟨I.size, I.defers, fun t ht => ?_, fun j oj d' hoj hlj hd' => ?_, hclosed, by simp [I.lsize], htodo, I.nodup.erase i⟩
        · refine I.base t fun j oj hoj hlj => ?_
          by_cases hji : j = i
          · subst hji; rw [hun] at hlj; cases hlj
          · exact ht j oj hoj (by rw [hset j hji]; exact hlj)
        · by_cases hji : j = i
          · subst hji
            rw [ho'] at hoj; cases hoj
            rw [hd] at hd'; cases hd'
          · rw [hset j hji] at hlj
            exact PhT.mono hji (I.phi j oj d' hoj hlj hd')
      · obtain ⟨f1, f2⟩ := hframe d v ((i, v) :: ee) hd (fun j u hj h => h.mono hj) hpi
        exact ⟨by rw [putsL_size, I.size], by rw [putsL_defers, I.defers], f1, f2, hclosed, by simp [I.lsize], htodo, I.nodup.erase i⟩
    · have hin' : bigs.contains i = false := by simpa using hin
      refine wp_one (by simpa using ho') (obL i o ho' hin' ee a w I.size hg hbase hdep) fun a' w' h => ?_
      obtain ⟨⟨d, v, hd, rfl, hv⟩, hgr⟩ := h
      obtain ⟨f1, f2⟩ := hframe d v ee hd (fun _ _ _ h => h) ⟨fun hh => absurd (hin'.symm.trans hh) (by decide), fun _ => hv⟩
      refine ih _ todo ee _ w' ⟨by rw [putsL_size, I.size], by rw [putsL_defers, I.defers], f1, f2, hclosed, by simp [I.lsize], fun x => ?_, I.nodup⟩ (hk.stable hgr) (hG _ _ hgr hg) hcnt'
      rw [I.todos]
      by_cases hxi : x = i
      · subst hxi; simp [hseti, hun]; simpa using hin'
      · rw [hset x hxi]
theorem any_tree (bigs : List Nat) (hlex : lexB' ol = true) (hdn : dstNB ol N = true) (hdst : dstsB ol = true) (hbl : (bigs.all fun i => Nat.blt i ol.length) = true) (hnd : decide bigs.Nodup = true)
    {l : List (Nat × Value)} {w : World} (hN : a0.tmps.size = N) (hG : ∀ w1 w2, w1.grownBy w2 none → G w1 → G w2) (g0 : G w) (obL : ObRs9 P ol bigs φ G (putsL a0 l) N 0 ol) (hdf : (putsL a0 l).defers = a0.defers)
    (main : KT P ol bigs φ G (putsL a0 l) N Q bigs.length bigs [] w) : RegAny P ol Q (putsL a0 l) w := by
  have hd : w.grownBy { w with drawn := w.drawn + 1 } none := ⟨rfl, rfl, rfl, Nat.le_refl _, fun _ _ _ => rfl⟩
  have I : TInv ol bigs φ (putsL a0 l) N (Array.replicate ol.length false) bigs [] (putsL a0 l) := by
    refine ⟨slN hN, rfl, fun _ _ => rfl, fun j o d hj hl => ?_, fun j o hj hl => ?_, by simp, fun i => ⟨fun hi => ⟨hi, ?_⟩, fun hi => hi.1⟩, of_decide_eq_true hnd⟩
    · have : j < ol.length := (List.getElem?_eq_some_iff.1 hj).1
      simp [Array.getD_eq_getD_getElem?, this] at hl
    · have : j < ol.length := (List.getElem?_eq_some_iff.1 hj).1
      simp [Array.getD_eq_getD_getElem?, this] at hl
    · have := List.all_eq_true.1 hbl i hi
      have h3 : i < ol.length := by simpa [Nat.blt_eq] using this
      simp [Array.getD_eq_getD_getElem?, h3]
  exact region_tree_steps (P := P) (Q := Q) hlex hdn hdst hbl hG (fun i o hi hh => by
      have h5 := ObRs9.getx obL i o hi (by rw [Nat.zero_add]; exact hh)
      rw [Nat.zero_add] at h5; exact h5) ol.length (Array.replicate ol.length false) bigs [] (putsL a0 l) _ I (main.stable hd) (hG _ _ hd g0) (Nat.le_trans (List.countP_le_length) (by simp))
theorem kt_step {n : Nat} {todo rs : List Nat} {e : List (Nat × Value)} {w : World} (hr : readyT ol todo = rs) (h : ∀ i ∈ rs, KI P ol bigs φ G a0 N e i w fun v w' => KT P ol bigs φ G a0 N Q n (todo.erase i) ((i, v) :: e) w') : KT P ol bigs φ G a0 N Q (n + 1) todo e w := by
  subst hr; exact h
theorem one_mem {p : Nat → Prop} {x : Nat} (h : p x) : ∀ i ∈ [x], p i := fun i hi => by
  obtain rfl : i = x := by simpa using hi
  exact h
theorem kt_end {o : Oper} {d : Nat} {v : Value} {a : Act} {w : World} {K : Value → World → Prop} (hd : o.dst = some d) (g : G w) (h : K v w) :
    wpList P ol.toArray (fun ex a' w' => ex = .normal ∧ ∃ v, ((o.dst = none ∧ a' = a) ∨ ∃ d, o.dst = some d ∧ a' = putsL a [(d, v)]) ∧ K v w' ∧ G w') [] (putsL a [(d, v)]) w := ⟨rfl, v, .inr ⟨d, hd, rfl⟩, h, g⟩
theorem obT_end {o : Oper} {i d : Nat} {v : Value} {a : Act} {w : World} (hd : o.dst = some d) (hv : φ i v) :
    wpList P ol.toArray (fun ex a' w' => ex = .normal ∧ (∃ d v, o.dst = some d ∧ a' = putsL a [(d, v)] ∧ φ i v) ∧ w.grownBy w' none) [] (putsL a [(d, v)]) w := ⟨rfl, ⟨d, v, hd, rfl, hv⟩, grown_refl _ _⟩
end
end Go.Gx

namespace Go.Gx
open Go.RowKit
section
variable {P : Program} {ol : List Oper} {Q : Exit → Act → World → Prop} {E : Type} {Φ : E → Nat → Value → Prop} {C : E → Nat → World → Prop} {ch : Chain} {a0 : Act} {N : Nat}
end

section
variable {P : Program} {ol : List Oper} {Q : Exit → Act → World → Prop} {ops : List Nat} {φ : Nat → Value → Prop} {G : Nat → World → Prop} {a0 : Act} {N : Nat}
end
end Go.Gx

namespace Go.Gx
open Go.RowKit
section
variable {P : Program} {ol : List Oper} {Q : Exit → Act → World → Prop} {bigs : List Nat} {φ : Nat → Value → Prop} {G : List Nat → World → Prop} {a0 : Act} {N : Nat}
def KIk (P : Program) (ol : List Oper) (bigs : List Nat) (φ : Nat → Value → Prop) (G : List Nat → World → Prop) (a0 : Act) (N : Nat) (e : List (Nat × Value)) (todo : List Nat) (i : Nat) (w : World) (K : Value → World → Prop) : Prop :=
  ∀ w1, w.grownBy w1 none → G todo w1 → ∀ a, a.tmps.size = N → (∀ t, safeB ol i t = true → a.tmps.getD t undef = a0.tmps.getD t undef) → (∀ j oj d, depB ol i j = true → ol[j]? = some oj → oj.dst = some d → PhT bigs φ e j (a.tmps.getD d undef)) →
    ∀ o, ol[i]? = some o → wpList P ol.toArray (fun ex a' w' => ex = .normal ∧ ∃ v, ((o.dst = none ∧ a' = a) ∨ ∃ d, o.dst = some d ∧ a' = putsL a [(d, v)]) ∧ K v w' ∧ G (todo.erase i) w') [o] (putsL a []) w1
def KTk (P : Program) (ol : List Oper) (bigs : List Nat) (φ : Nat → Value → Prop) (G : List Nat → World → Prop) (a0 : Act) (N : Nat) (Q : Exit → Act → World → Prop) : Nat → List Nat → List (Nat × Value) → World → Prop
  | 0, _, e, w => ∀ w1, w.grownBy w1 none → ∀ a', a'.tmps.size = N → a'.defers = a0.defers → (∀ t, (ol.all fun o => o.dst != some t) = true → a'.tmps.getD t undef = a0.tmps.getD t undef) →
      (∀ j oj d, ol[j]? = some oj → oj.dst = some d → PhT bigs φ e j (a'.tmps.getD d undef)) → Q .normal (putsL a' []) w1
  | n + 1, todo, e, w => ∀ i ∈ readyT ol todo, KIk P ol bigs φ G a0 N e todo i w fun v w' => KTk P ol bigs φ G a0 N Q n (todo.erase i) ((i, v) :: e) w'
theorem KTk.stable : ∀ {n : Nat} {todo : List Nat} {e : List (Nat × Value)} {w w2 : World}, KTk P ol bigs φ G a0 N Q n todo e w → w.grownBy w2 none → KTk P ol bigs φ G a0 N Q n todo e w2
  | 0, _, _, _, _, h, E => fun w1 E1 => h w1 (grown_trans E E1)
  | _ + 1, _, _, _, _, h, E => fun i hi w1 E1 => h i hi w1 (grown_trans E E1)
def ObQ9 (P : Program) (ol : List Oper) (bigs : List Nat) (φ : Nat → Value → Prop) (G : List Nat → World → Prop) (a0 : Act) (N : Nat) (i : Nat) (o : Oper) : Prop :=
  ∀ (e : List (Nat × Value)) (todo : List Nat) (a : Act) (w : World), a.tmps.size = N → (∀ j, bigs.contains j = true → depB ol j i = true → j ∈ todo) → G todo w → (∀ t, safeB ol i t = true → a.tmps.getD t undef = a0.tmps.getD t undef) → (∀ j oj d, depB ol i j = true → ol[j]? = some oj → oj.dst = some d → PhT bigs φ e j (a.tmps.getD d undef)) →
    wpList P ol.toArray (fun ex a' w' => ex = .normal ∧ (∃ d v, o.dst = some d ∧ a' = putsL a [(d, v)] ∧ φ i v) ∧ w.grownBy w' none) [o] (putsL a []) w
def ObRk9 (P : Program) (ol : List Oper) (bigs : List Nat) (φ : Nat → Value → Prop) (G : List Nat → World → Prop) (a0 : Act) (N : Nat) : Nat → List Oper → Prop
  | _, [] => True
  | i, o :: r => (bigs.contains i = false → ObQ9 P ol bigs φ G a0 N i o) ∧ ObRk9 P ol bigs φ G a0 N (i + 1) r
theorem ObRk9.nil {i : Nat} : ObRk9 P ol bigs φ G a0 N i [] := trivial
theorem ObRk9.cons {i : Nat} {o : Oper} {r : List Oper} (h : ObQ9 P ol bigs φ G a0 N i o) (h' : ObRk9 P ol bigs φ G a0 N (i + 1) r) : ObRk9 P ol bigs φ G a0 N i (o :: r) := ⟨fun _ => h, h'⟩
theorem ObRk9.pass {i : Nat} {o : Oper} {r : List Oper} (hh : bigs.contains i = true) (h' : ObRk9 P ol bigs φ G a0 N (i + 1) r) : ObRk9 P ol bigs φ G a0 N i (o :: r) := ⟨fun h => absurd (hh.symm.trans h) (by decide), h'⟩
theorem ObRk9.getx : ∀ {l : List Oper} {i : Nat}, ObRk9 P ol bigs φ G a0 N i l → ∀ j o, l[j]? = some o → bigs.contains (i + j) = false → ObQ9 P ol bigs φ G a0 N (i + j) o
  | [], _, _, j, o, h, _ => by simp at h
  | o' :: r, i, h, 0, o, hj, hs => by simp at hj; subst hj; exact h.1 hs
  | o' :: r, i, h, j + 1, o, hj, hs => by
    have := ObRk9.getx h.2 j o (by simpa using hj) (by rwa [show i + 1 + j = i + (j + 1) by omega])
    rwa [show i + 1 + j = i + (j + 1) by omega] at this
theorem region_treek_steps (hlex : lexB' ol = true) (hdn : dstNB ol N = true) (hdst : dstsB ol = true) (hbl : (bigs.all fun i => Nat.blt i ol.length) = true)
    (hG : ∀ t w1 w2, w1.grownBy w2 none → G t w1 → G t w2) (obL : ∀ i o, ol[i]? = some o → bigs.contains i = false → ObQ9 P ol bigs φ G a0 N i o) :
    ∀ (fuel : Nat) (listed : Array Bool) (todo : List Nat) (e : List (Nat × Value)) (a : Act) (w : World), TInv ol bigs φ a0 N listed todo e a → KTk P ol bigs φ G a0 N Q todo.length todo e w → G todo w → (List.range ol.length).countP (fun i => !listed.getD i true) ≤ fuel → wpAny P .any ol.toArray Q fuel listed a w := by
  have done : ∀ (listed : Array Bool) (todo : List Nat) (e : List (Nat × Value)) (a : Act) (w : World), TInv ol bigs φ a0 N listed todo e a → KTk P ol bigs φ G a0 N Q todo.length todo e w → Region.ready .any ol.toArray listed = [] → Q .normal a w := by
    intro listed todo ee a w I hk hr
    have hall : ∀ i, i < ol.length → listed.getD i true = true := by
      intro i
      induction i using Nat.strongRecOn with
      | _ i ih =>
        intro hi
        by_cases hq : listed.getD i true = true
        · exact hq
        · exfalso
          have hm : i ∈ Region.ready .any ol.toArray listed := by
            rw [mem_ready]
            refine ⟨by simpa using hq, ol[i], by simp [hi], fun e he hb => ?_⟩
            have h1 := List.all_eq_true.1 hlex i (by simp [hi])
            simp only [List.getElem?_eq_getElem hi, Array.all_eq_true_iff_forall_mem, Bool.or_eq_true, Bool.not_eq_true', Nat.blt_eq] at h1
            have h2 := (h1 e he).resolve_left (by simp [hb])
            exact getD_true_lt (ih e.on h2 (by omega)) (by rw [I.lsize]; omega)
          rw [hr] at hm
          cases hm
    have ht : todo = [] := by
      rw [List.eq_nil_iff_forall_not_mem]
      intro i hi
      obtain ⟨hb, hl⟩ := (I.todos i).1 hi
      have := List.all_eq_true.1 hbl i hb
      rw [hall i (by simpa [Nat.blt_eq] using this)] at hl
      cases hl
    subst ht
    exact hk w (grown_refl _ _) a I.size I.defers (fun t ht => I.base t fun j o hj _ hd' => by
      have := List.all_eq_true.1 ht o (List.mem_of_getElem? hj)
      simp [hd'] at this) (fun j oj d hj hd' => I.phi j oj d hj (hall j (List.getElem?_eq_some_iff.1 hj).1) hd')
  intro fuel
  induction fuel with
  | zero =>
    intro listed todo ee a w I hk hg hcnt
    have hr : Region.ready .any ol.toArray listed = [] := by
      rw [List.eq_nil_iff_forall_not_mem]
      intro i hi
      obtain ⟨h1, o, ho, _⟩ := mem_ready.1 hi
      have hlt : i < ol.length := by simpa using (Array.getElem?_eq_some_iff.1 ho).1
      have hz : (List.range ol.length).countP (fun i => !listed.getD i true) = 0 := by omega
      rw [List.countP_eq_zero] at hz
      exact hz i (by simp [hlt]) (by simp [h1])
    exact ⟨hr, done listed todo ee a w I hk hr⟩
  | succ fuel ih =>
    intro listed todo ee a w I hk hg hcnt
    refine ⟨fun hr => done listed todo ee a w I hk hr, fun i hi => ?_⟩
    obtain ⟨hun, o, ho, hwait⟩ := mem_ready.1 hi
    have ho' : ol[i]? = some o := by simpa using ho
    have hlt : i < ol.length := (List.getElem?_eq_some_iff.1 ho').1
    have hls : i < listed.size := by rw [I.lsize]; exact hlt
    have hcnt' : (List.range ol.length).countP (fun j => !(listed.setIfInBounds i true).getD j true) ≤ fuel := by
      have : (List.range ol.length).countP (fun j => !(listed.setIfInBounds i true).getD j true) < (List.range ol.length).countP (fun j => !listed.getD j true) := by
        refine countP_lt _ _ (fun y hy => ?_) _ i (by simp [hlt]) (by simp [hun]) (by simp [Array.getD_eq_getD_getElem?, hls])
        by_cases hiy : i = y
        · subst hiy; simp [Array.getD_eq_getD_getElem?, hls] at hy
        · rwa [getD_set_ne true hiy] at hy
      omega
    have hbase : ∀ t, safeB ol i t = true → a.tmps.getD t undef = a0.tmps.getD t undef := by
      intro t ht
      refine I.base t fun j oj hj hlj hd => ?_
      have h1 := List.all_eq_true.1 ht oj (List.mem_of_getElem? hj)
      simp only [Bool.or_eq_true, bne_iff_ne, ne_eq, Array.any_eq_true, Bool.and_eq_true, beq_iff_eq] at h1
      rcases h1 with h1 | ⟨q, hq, h1, h2⟩
      · exact h1 hd
      · have := getD_of_false (I.closed j oj hj hlj _ (Array.getElem_mem hq) h2)
        rw [h1, hun] at this
        cases this
    have hdep : ∀ j oj d, depB ol i j = true → ol[j]? = some oj → oj.dst = some d → PhT bigs φ ee j (a.tmps.getD d undef) := by
      intro j oj d hj hoj hd
      obtain ⟨e, he, h1, h2⟩ := depB_spec ho' hj
      exact I.phi j oj d hoj (getD_of_false (by rw [← h1]; exact hwait e he h2)) hd
    have hset : ∀ j, j ≠ i → (listed.setIfInBounds i true).getD j true = listed.getD j true := fun j hj => getD_set_ne true (Ne.symm hj)
    have hseti : (listed.setIfInBounds i true).getD i true = true := by simp [Array.getD_eq_getD_getElem?, hls]
    have hclosed : ∀ j oj, ol[j]? = some oj → (listed.setIfInBounds i true).getD j true = true → ∀ e ∈ oj.after, Region.binds .any e = true → (listed.setIfInBounds i true).getD e.on false = true := by
      intro j oj hoj hlj e he hb
      refine getD_set_true ?_
      by_cases hji : j = i
      · subst hji
        rw [ho'] at hoj; cases hoj
        exact hwait e he hb
      · rw [hset j hji] at hlj
        exact I.closed j oj hoj hlj e he hb
    have hne : ∀ j oj d, ol[j]? = some oj → j ≠ i → o.dst = some d → oj.dst ≠ some d := by
      intro j oj d hoj hji hd hd'
      have hj : j < ol.length := (List.getElem?_eq_some_iff.1 hoj).1
      have h1 := List.all_eq_true.1 (List.all_eq_true.1 hdst i (by simp [hlt])) j (by simp [hj])
      simp only [ho', hoj, Bool.or_eq_true, beq_iff_eq, bne_iff_ne, ne_eq] at h1
      rcases h1 with h1 | h1 | h1
      · exact hji h1.symm
      · exact h1 (by rw [hd, hd'])
      · rw [hd] at h1; cases h1
    -- what is left of the frame, behind a value in slot d
    have hframe : ∀ d v (e' : List (Nat × Value)), o.dst = some d → (∀ j u, j ≠ i → PhT bigs φ ee j u → PhT bigs φ e' j u) → PhT bigs φ e' i v → 
        (∀ t, (∀ j oj, ol[j]? = some oj → (listed.setIfInBounds i true).getD j true = true → oj.dst ≠ some t) → (putsL a [(d, v)]).tmps.getD t undef = a0.tmps.getD t undef) ∧
        (∀ j oj d', ol[j]? = some oj → (listed.setIfInBounds i true).getD j true = true → oj.dst = some d' → PhT bigs φ e' j ((putsL a [(d, v)]).tmps.getD d' undef)) := by
      intro d v e' hd hR hv
      have hdN : d < a.tmps.size := by
        have h1 := List.all_eq_true.1 hdn o (List.mem_of_getElem? ho')
        simp only [hd, Nat.blt_eq] at h1
        rw [I.size]; exact h1
      refine ⟨fun t ht => ?_, fun j oj d' hoj hlj hd' => ?_⟩
      · have hdt : d ≠ t := fun e => ht i o ho' hseti (by rw [hd, e])
        rw [get_put_ne hdt]
        refine I.base t fun j oj hoj hlj => ?_
        by_cases hji : j = i
        · subst hji; rw [hun] at hlj; cases hlj
        · exact ht j oj hoj (by rw [hset j hji]; exact hlj)
      · by_cases hji : j = i
        · subst hji
          rw [ho'] at hoj; cases hoj
          rw [hd] at hd'; cases hd'
          rw [get_put_eq hdN]
          exact hv
        · rw [hset j hji] at hlj
          have : d ≠ d' := fun e => hne j oj d hoj hji hd (by rw [hd', e])
          rw [get_put_ne this]
          exact hR j _ hji (I.phi j oj d' hoj hlj hd')
    by_cases hin : bigs.contains i = true
    · have hmem : i ∈ bigs := by simpa using hin
      have hit : i ∈ todo := (I.todos i).2 ⟨hmem, hun⟩
      have hrt : i ∈ readyT ol todo := by
        unfold readyT
        rw [List.mem_filter]
        refine ⟨hit, List.all_eq_true.2 fun j hj => ?_⟩
        cases hd : depB ol i j with
        | false => rfl
        | true =>
          obtain ⟨x, hx, h1, h2⟩ := depB_spec ho' hd
          have h3 := getD_of_false (hwait x hx h2)
          rw [h1, ((I.todos j).1 hj).2] at h3
          cases h3
      obtain ⟨n, hn⟩ : ∃ n, todo.length = n + 1 := ⟨todo.length - 1, by have := List.length_pos_of_mem hit; omega⟩
      have hn2 : (todo.erase i).length = n := by rw [List.length_erase_of_mem hit, hn]; rfl
      rw [hn] at hk
      have h0 := hk i hrt w (grown_refl _ _) hg a I.size hbase hdep o ho'
      refine wp_one (by simpa using ho') h0 fun a' w' h => ?_
      obtain ⟨v, h1, h2, h3⟩ := h
      have htodo : ∀ x, x ∈ todo.erase i ↔ x ∈ bigs ∧ (listed.setIfInBounds i true).getD x true = false := by
        intro x
        rw [I.nodup.mem_erase_iff, I.todos]
        by_cases hxi : x = i
        · subst hxi; simp [hseti]
        · rw [hset x hxi]; simp [hxi]
      refine ih _ (todo.erase i) ((i, v) :: ee) a' w' ?_ (by rw [hn2]; exact h2) h3 hcnt'
      have hpi : PhT bigs φ ((i, v) :: ee) i v := ⟨fun _ => by simp, fun hh => absurd (hin.symm.trans hh) (by decide)⟩
      rcases h1 with ⟨hd, rfl⟩ | ⟨d, hd, rfl⟩
      · refine ⟨I.size, I.defers, fun t ht => ?_, fun j oj d' hoj hlj hd' => ?_, hclosed, by simp [I.lsize], htodo, I.nodup.erase i⟩
        · refine I.base t fun j oj hoj hlj => ?_
          by_cases hji : j = i
          · subst hji; rw [hun] at hlj; cases hlj
          · exact ht j oj hoj (by rw [hset j hji]; exact hlj)
        · by_cases hji : j = i
          · subst hji
            rw [ho'] at hoj; cases hoj
            rw [hd] at hd'; cases hd'
          · rw [hset j hji] at hlj
            exact PhT.mono hji (I.phi j oj d' hoj hlj hd')
      · obtain ⟨f1, f2⟩ := hframe d v ((i, v) :: ee) hd (fun j u hj h => h.mono hj) hpi
        exact ⟨by rw [putsL_size, I.size], by rw [putsL_defers, I.defers], f1, f2, hclosed, by simp [I.lsize], htodo, I.nodup.erase i⟩
    · have hin' : bigs.contains i = false := by simpa using hin
      have hck : ∀ j, bigs.contains j = true → depB ol j i = true → j ∈ todo := by
        intro j hj hd
        rw [I.todos]
        refine ⟨by simpa using hj, ?_⟩
        cases hl : listed.getD j true with
        | false => rfl
        | true =>
          exfalso
          cases hok : ol[j]? with
          | none => simp [depB, hok] at hd
          | some ok =>
            obtain ⟨x, hx, h4, h5⟩ := depB_spec hok hd
            have h6 := getD_of_false (I.closed j ok hok hl x hx h5)
            rw [h4, hun] at h6; cases h6
      refine wp_one (by simpa using ho') (obL i o ho' hin' ee todo a w I.size hck hg hbase hdep) fun a' w' h => ?_
      obtain ⟨⟨d, v, hd, rfl, hv⟩, hgr⟩ := h
      obtain ⟨f1, f2⟩ := hframe d v ee hd (fun _ _ _ h => h) ⟨fun hh => absurd (hin'.symm.trans hh) (by decide), fun _ => hv⟩
      refine ih _ todo ee _ w' ⟨by rw [putsL_size, I.size], by rw [putsL_defers, I.defers], f1, f2, hclosed, by simp [I.lsize], fun x => ?_, I.nodup⟩ (hk.stable hgr) (hG _ _ _ hgr hg) hcnt'
      rw [I.todos]
      by_cases hxi : x = i
      · subst hxi; simp [hseti, hun]; simpa using hin'
      · rw [hset x hxi]
theorem any_treek (bigs : List Nat) (hlex : lexB' ol = true) (hdn : dstNB ol N = true) (hdst : dstsB ol = true) (hbl : (bigs.all fun i => Nat.blt i ol.length) = true) (hnd : decide bigs.Nodup = true)
    {l : List (Nat × Value)} {w : World} (hN : a0.tmps.size = N) (hG : ∀ t w1 w2, w1.grownBy w2 none → G t w1 → G t w2) (g0 : G bigs w) (obL : ObRk9 P ol bigs φ G (putsL a0 l) N 0 ol) (hdf : (putsL a0 l).defers = a0.defers)
    (main : KTk P ol bigs φ G (putsL a0 l) N Q bigs.length bigs [] w) : RegAny P ol Q (putsL a0 l) w := by
  have hd : w.grownBy { w with drawn := w.drawn + 1 } none := ⟨rfl, rfl, rfl, Nat.le_refl _, fun _ _ _ => rfl⟩
  have I : TInv ol bigs φ (putsL a0 l) N (Array.replicate ol.length false) bigs [] (putsL a0 l) := by
    refine ⟨slN hN, rfl, fun _ _ => rfl, fun j o d hj hl => ?_, fun j o hj hl => ?_, by simp, fun i => ⟨fun hi => ⟨hi, ?_⟩, fun hi => hi.1⟩, of_decide_eq_true hnd⟩
    · have : j < ol.length := (List.getElem?_eq_some_iff.1 hj).1
      simp [Array.getD_eq_getD_getElem?, this] at hl
    · have : j < ol.length := (List.getElem?_eq_some_iff.1 hj).1
      simp [Array.getD_eq_getD_getElem?, this] at hl
    · have := List.all_eq_true.1 hbl i hi
      have h3 : i < ol.length := by simpa [Nat.blt_eq] using this
      simp [Array.getD_eq_getD_getElem?, h3]
  exact region_treek_steps (P := P) (Q := Q) hlex hdn hdst hbl hG (fun i o hi hh => by
      have h5 := ObRk9.getx obL i o hi (by rw [Nat.zero_add]; exact hh)
      rw [Nat.zero_add] at h5; exact h5) ol.length (Array.replicate ol.length false) bigs [] (putsL a0 l) _ I (main.stable hd) (hG _ _ _ hd g0) (Nat.le_trans (List.countP_le_length) (by simp))
theorem ktk_step {n : Nat} {todo rs : List Nat} {e : List (Nat × Value)} {w : World} (hr : readyT ol todo = rs) (h : ∀ i ∈ rs, KIk P ol bigs φ G a0 N e todo i w fun v w' => KTk P ol bigs φ G a0 N Q n (todo.erase i) ((i, v) :: e) w') : KTk P ol bigs φ G a0 N Q (n + 1) todo e w := by
  subst hr; exact h
theorem ktk_end {todo : List Nat} {i : Nat} {o : Oper} {d : Nat} {v : Value} {a : Act} {w : World} {K : Value → World → Prop} (hd : o.dst = some d) (g : G (todo.erase i) w) (h : K v w) :
    wpList P ol.toArray (fun ex a' w' => ex = .normal ∧ ∃ v, ((o.dst = none ∧ a' = a) ∨ ∃ d, o.dst = some d ∧ a' = putsL a [(d, v)]) ∧ K v w' ∧ G (todo.erase i) w') [] (putsL a [(d, v)]) w := ⟨rfl, v, .inr ⟨d, hd, rfl⟩, h, g⟩
theorem ktk_end0 {todo : List Nat} {i : Nat} {o : Oper} {a : Act} {w : World} {K : Value → World → Prop} (hd : o.dst = none) (g : G (todo.erase i) w) (h : K undef w) :
    wpList P ol.toArray (fun ex a' w' => ex = .normal ∧ ∃ v, ((o.dst = none ∧ a' = a) ∨ ∃ d, o.dst = some d ∧ a' = putsL a [(d, v)]) ∧ K v w' ∧ G (todo.erase i) w') [] (putsL a []) w := ⟨rfl, undef, .inl ⟨hd, rfl⟩, h, g⟩
theorem obTk_end {o : Oper} {i d : Nat} {v : Value} {a : Act} {w : World} (hd : o.dst = some d) (hv : φ i v) :
    wpList P ol.toArray (fun ex a' w' => ex = .normal ∧ (∃ d v, o.dst = some d ∧ a' = putsL a [(d, v)] ∧ φ i v) ∧ w.grownBy w' none) [] (putsL a [(d, v)]) w := ⟨rfl, ⟨d, v, hd, rfl, hv⟩, grown_refl _ _⟩
end
end Go.Gx

namespace Go.Gx
section
variable {P : Program} {Q : Exit → Act → World → Prop} {a : Act} {w w' : World} {l : List (Nat × Value)} {ops : Array Oper} {rest : List Oper}
variable {d ty xt yt t e : Nat} {p : String} {af : Array Edge} {x y z : Operand} {v u : Value} {k : IntKind} {m n r : Int}
theorem op_fnc {f : FuncId} {as9 : List Operand} {ts : Array Nat} {vs : List Value} {R : Value → World → Prop} (hf : callOk P f = true) (hc : Ret P f vs.toArray w R) (hm : argsEv (putsL a l).eval as9 vs)
    (h : ∀ v w', R v w' → wpList P ops Q rest (putsL a ((d, v) :: l)) w') : wpList P ops Q (⟨some d, .call ⟨.value (.func f), as9.toArray, ts⟩, ty, p, af, none⟩ :: rest) (putsL a l) w := op_fn hf hm hc h
theorem op_storeA {b s T : Nat} {vs cs : List Value} (ht : (P.info? t).map (·.size) = some s) (hx : (putsL a l).eval x = ptr b 0) (hy : (putsL a l).eval y = .agg vs.toArray) (hs : vs.length = s) (h1 : vs.all Value.oneCell' = true) (hb : Bx w b T cs) (hl : vs.length = cs.length)
    (h : ∀ w', Bx w' b T vs → w.grownBy w' (some b) → wpList P ops Q rest (putsL a l) w') : wpList P ops Q (⟨none, .store t x y, ty, p, af, none⟩ :: rest) (putsL a l) w :=
  op_store ht hx hy (by simp [Value.cells]) hs h1 hb (by omega) (by simp [hl]) h
theorem op_loadB {s b T : Nat} {cs : List Value} (ht : aggT P xt = some s) (hl : cs.length = s) (hx : (putsL a l).eval x = ptr b 0) (hB : Bx w b T cs) (h : wpList P ops Q rest (putsL a ((d, .agg cs.toArray) :: l)) w) :
    wpList P ops Q (⟨some d, .load xt x, ty, p, af, none⟩ :: rest) (putsL a l) w :=
  op_loadA ht hl hx (fun j u hu => by rw [Nat.zero_add]; exact hB.cell hu) h
theorem retC {fn : Func} {R : Ending → World → Prop} {tt tc s b T : Nat} {cs : List Value} (hr : fn.results = [ResultVar.cell tt tc].toArray) (hd : a.defers = []) (hx : (putsL a l).eval (.tmp tt) = ptr b 0) (ht : aggT P tc = some s) (hl : cs.length = s) (hB : Bx w b T cs) (h : R (.returned (.agg cs.toArray)) w) : bodyPost P fn R .ret (putsL a l) w :=
  retN (rs := [.cell tt tc]) (vs := [.agg cs.toArray]) hr hd ⟨⟨_, hx, run_loadA ht hl (fun j u hu => by rw [Nat.zero_add]; exact hB.cell hu)⟩, trivial⟩ rfl h
end
section
variable {b L B p : Nat}
theorem sR (h : B ≤ b := by omega) : ∀ k, some b = some k → k < L ∨ B ≤ k := fun k hk => by obtain rfl := Option.some.inj hk; exact .inr h
theorem sO (h : b < L ∨ B ≤ b := by omega) : ∀ k, some b = some k → k < L ∨ B ≤ k := fun k hk => by obtain rfl := Option.some.inj hk; exact h
theorem sP (h : p < L ∨ B ≤ p := by omega) : ∀ k, k = p → k < L ∨ B ≤ k := fun k hk => by subst hk; exact h
theorem sB {c : Nat} (h : b ≠ c := by omega) : some b ≠ some c := fun e => h (Option.some.inj e)
theorem sN {w : World} {c t u : Nat} {cs ds : List Value} (h : Bx w b t cs) (h0 : Bx w c u ds) (hn : t ≠ u := by decide) : some b ≠ some c := fun hh => by
  obtain rfl := Option.some.inj hh
  have := h.symm.trans h0
  simp at this
  exact hn this.2
end
theorem kb2 {w w' : World} {b0 t0 : Nat} {c0 : List Value} {b1 t1 : Nat} {c1 : List Value} (E : w.grownBy w' none) (h0 : Bx w b0 t0 c0) (h1 : Bx w b1 t1 c1) : Bx w' b0 t0 c0 ∧ Bx w' b1 t1 c1 := ⟨h0.keep0 E, h1.keep0 E⟩
theorem kb3 {w w' : World} {b0 t0 : Nat} {c0 : List Value} {b1 t1 : Nat} {c1 : List Value} {b2 t2 : Nat} {c2 : List Value} (E : w.grownBy w' none) (h0 : Bx w b0 t0 c0) (h1 : Bx w b1 t1 c1) (h2 : Bx w b2 t2 c2) : Bx w' b0 t0 c0 ∧ Bx w' b1 t1 c1 ∧ Bx w' b2 t2 c2 := ⟨h0.keep0 E, h1.keep0 E, h2.keep0 E⟩
theorem kb4 {w w' : World} {b0 t0 : Nat} {c0 : List Value} {b1 t1 : Nat} {c1 : List Value} {b2 t2 : Nat} {c2 : List Value} {b3 t3 : Nat} {c3 : List Value} (E : w.grownBy w' none) (h0 : Bx w b0 t0 c0) (h1 : Bx w b1 t1 c1) (h2 : Bx w b2 t2 c2) (h3 : Bx w b3 t3 c3) : Bx w' b0 t0 c0 ∧ Bx w' b1 t1 c1 ∧ Bx w' b2 t2 c2 ∧ Bx w' b3 t3 c3 := ⟨h0.keep0 E, h1.keep0 E, h2.keep0 E, h3.keep0 E⟩
theorem kb5 {w w' : World} {b0 t0 : Nat} {c0 : List Value} {b1 t1 : Nat} {c1 : List Value} {b2 t2 : Nat} {c2 : List Value} {b3 t3 : Nat} {c3 : List Value} {b4 t4 : Nat} {c4 : List Value} (E : w.grownBy w' none) (h0 : Bx w b0 t0 c0) (h1 : Bx w b1 t1 c1) (h2 : Bx w b2 t2 c2) (h3 : Bx w b3 t3 c3) (h4 : Bx w b4 t4 c4) : Bx w' b0 t0 c0 ∧ Bx w' b1 t1 c1 ∧ Bx w' b2 t2 c2 ∧ Bx w' b3 t3 c3 ∧ Bx w' b4 t4 c4 := ⟨h0.keep0 E, h1.keep0 E, h2.keep0 E, h3.keep0 E, h4.keep0 E⟩
theorem kb6 {w w' : World} {b0 t0 : Nat} {c0 : List Value} {b1 t1 : Nat} {c1 : List Value} {b2 t2 : Nat} {c2 : List Value} {b3 t3 : Nat} {c3 : List Value} {b4 t4 : Nat} {c4 : List Value} {b5 t5 : Nat} {c5 : List Value} (E : w.grownBy w' none) (h0 : Bx w b0 t0 c0) (h1 : Bx w b1 t1 c1) (h2 : Bx w b2 t2 c2) (h3 : Bx w b3 t3 c3) (h4 : Bx w b4 t4 c4) (h5 : Bx w b5 t5 c5) : Bx w' b0 t0 c0 ∧ Bx w' b1 t1 c1 ∧ Bx w' b2 t2 c2 ∧ Bx w' b3 t3 c3 ∧ Bx w' b4 t4 c4 ∧ Bx w' b5 t5 c5 := ⟨h0.keep0 E, h1.keep0 E, h2.keep0 E, h3.keep0 E, h4.keep0 E, h5.keep0 E⟩
theorem zx {p : Prop} (h : p := by omega) : p := h
theorem zy {p : Prop} (h : p := by kernel_rfl) : p := h
theorem zz {p : Prop} (h : p := by decide) : p := h
theorem zA : type_of% @ev_hit := @ev_hit
theorem zB : type_of% @reg_nil := @reg_nil
theorem zC : type_of% @ev_base := @ev_base
theorem zD : type_of% @op_assign := @op_assign
theorem zE {α : Type} {a b : α} (h : some a = some b) : a = b := Option.some.inj h
theorem zF : type_of% @seq_any := @seq_any
theorem zG : type_of% @op_move := @op_move
theorem zH : type_of% @one_reg := @one_reg
theorem zI : type_of% @Nat.le_of_ble_eq_true := @Nat.le_of_ble_eq_true
theorem zL : type_of% @sl_base := @sl_base
theorem zM : type_of% @op_field := @op_field
theorem zN : type_of% @op_load1 := @op_load1
theorem zO : type_of% @then_ret := @then_ret
theorem zP : type_of% @below_step0 := @below_step0
theorem zQ : type_of% @grown_of_below := @grown_of_below
theorem zR : type_of% @g_false := @g_false
theorem zS : type_of% @g_true := @g_true
theorem zU : type_of% @sl_hit := @sl_hit
theorem zW : type_of% @op_extract := @op_extract
theorem zX : type_of% @op_loadA := @op_loadA
theorem zY : type_of% @op_loadB := @op_loadB
theorem zZ : type_of% @op_storeA := @op_storeA
theorem za : type_of% @op_store := @op_store
theorem zb : type_of% @blk_ret := @blk_ret
theorem zc : type_of% @op_pick_t := @op_pick_t
theorem zd : type_of% @op_pick_f := @op_pick_f
theorem ze : type_of% @op_fn := @op_fn
theorem zf : type_of% @op_build := @op_build
theorem zg : type_of% @loop_next := @loop_next
theorem zh : type_of% @op_index_rd := @op_index_rd
theorem zi : type_of% @Gr.of0 := @Gr.of0
theorem zj : type_of% @op_fnc := @op_fnc
end Go.Gx

namespace Go.Proofs.Ythflnkfghogaoaa
open Go.Gx Go.RowKit
attribute [local irreducible] wpList wpStill Code.wp Calls

theorem CloneC (l : List (PCol)) (v : Value) (w : World) (hz : l.length ≤ 1000000000) (hl : RdC w 0 w.heap.size 3 v l.length (l.flatMap cellsC)) : Ret Try.prog 89 #[v] w (fun v' w' => Below w.heap.size w w' ∧ Own w' w.heap.size 68 3 v' l.length (l.flatMap cellsC)) := by
 have hb := Below.refl w.heap.size w
 refine enter (N := 8) Try.func89 rfl rfl (by simp) fun a0 hN hd hA => ?_
 have s0 : a0.tmps.getD 0 undef = v := hA 0 (by simp)
 clear hA
 refine zF fun K1 hK1 => ?_
 refine zH ?_
 refine zD rfl ?_
 refine zB ?_
 refine hK1 _ _ (zF fun K2 hK2 => ?_)
 refine zF fun K3 hK3 => ?_
 refine zH ?_
 refine zG (zC hN rfl s0) ?_
 refine op_eql_nil slt41 (zA hN rfl) rfl hl (fun c4 => ?_) ?_
 ·
  refine zB ?_
  refine hK3 _ _ (wp_cond_true (zA hN rfl) (zF fun K4 hK4 => ?_))
  refine zH ?_
  refine zD rfl ?_
  refine zB ?_
  refine hK4 _ _ (wp_ret (zO ( ?_)))
  refine ret1 rfl hd (zA hN rfl) ⟨_, rfl, ?_⟩
  exact ⟨hb, by rw [List.length_eq_zero_iff.1 c4]; exact Own.nil _ _ _ _⟩
 refine zB ?_
 refine hK3 _ _ (wp_cond_false (zA hN rfl) (wp_skip (hK2 _ _ (zF fun K5 hK5 => ?_))))
 refine zH ?_
 refine op_bslice (e := 68) (pv := []) (cs := []) trivial zy ?_
 intro w6 b7 lo_b7 hi_b7 hB9 E8
 have := E8.size
 have hl := hl.keep0 E8
 have hb := zP hb E8 hb.size
 refine zG (zC hN rfl s0) ?_
 have hP15 := (Own.ofBx (base := w.heap.size) (sz := 3) (n := 0) hB9 rfl zz zx)
 refine op_append slt41 (zA hN rfl) hP15 (zA hN rfl) (Src.ofRd Try.underlying41 zz hl (one_pc _)) (by unfold maxLen; omega) zx hb.size ?_
 intro v10 w11 hO13 E12 hm14
 have := E12.size
 have hl := hl.keepO hP15 E12 zx
 have hb := below_stepO hb hP15 E12 hb.size zx
 have hO13 : Own w11 w.heap.size 68 3 v10 (0 + l.length) ((l).flatMap cellsC) := by simpa [u8v, u16v, sv] using hO13
 refine zD (zA hN rfl) ?_
 refine zB ?_
 refine hK5 _ _ (wp_ret ?_)
 refine ret1 rfl hd (zA hN rfl) ⟨_, rfl, ?_⟩
 exact ⟨hb, hO13.cast (by simp) (by simp)⟩

theorem CloneS (l : List (List UInt8)) (v : Value) (w : World) (hz : l.length ≤ 1000000000) (hl : RdC w 0 w.heap.size 1 v l.length (l.map sv)) : Ret Try.prog 90 #[v] w (fun v' w' => Below w.heap.size w w' ∧ Own w' w.heap.size 9 1 v' l.length (l.map sv)) := by
 have hb := Below.refl w.heap.size w
 refine enter (N := 8) Try.func90 rfl rfl (by simp) fun a0 hN hd hA => ?_
 have s0 : a0.tmps.getD 0 undef = v := hA 0 (by simp)
 clear hA
 refine zF fun K16 hK16 => ?_
 refine zH ?_
 refine zD rfl ?_
 refine zB ?_
 refine hK16 _ _ (zF fun K17 hK17 => ?_)
 refine zF fun K18 hK18 => ?_
 refine zH ?_
 refine zG (zC hN rfl s0) ?_
 refine op_eql_nil slt53 (zA hN rfl) rfl hl (fun c4 => ?_) ?_
 ·
  refine zB ?_
  refine hK18 _ _ (wp_cond_true (zA hN rfl) (zF fun K19 hK19 => ?_))
  refine zH ?_
  refine zD rfl ?_
  refine zB ?_
  refine hK19 _ _ (wp_ret (zO ( ?_)))
  refine ret1 rfl hd (zA hN rfl) ⟨_, rfl, ?_⟩
  exact ⟨hb, by rw [List.length_eq_zero_iff.1 c4]; exact Own.nil _ _ _ _⟩
 refine zB ?_
 refine hK18 _ _ (wp_cond_false (zA hN rfl) (wp_skip (hK17 _ _ (zF fun K20 hK20 => ?_))))
 refine zH ?_
 refine op_bslice (e := 9) (pv := []) (cs := []) trivial zy ?_
 intro w21 b22 lo_b22 hi_b22 hB24 E23
 have := E23.size
 have hl := hl.keep0 E23
 have hb := zP hb E23 hb.size
 refine zG (zC hN rfl s0) ?_
 have hP30 := (Own.ofBx (base := w.heap.size) (sz := 1) (n := 0) hB24 rfl zz zx)
 refine op_append slt53 (zA hN rfl) hP30 (zA hN rfl) (Src.ofRd Try.underlying53 zz hl (one_sv _)) (by unfold maxLen; omega) zx hb.size ?_
 intro v25 w26 hO28 E27 hm29
 have := E27.size
 have hl := hl.keepO hP30 E27 zx
 have hb := below_stepO hb hP30 E27 hb.size zx
 have hO28 : Own w26 w.heap.size 9 1 v25 (0 + l.length) ((l).map sv) := by simpa [u8v, u16v, sv] using hO28
 refine zD (zA hN rfl) ?_
 refine zB ?_
 refine hK20 _ _ (wp_ret ?_)
 refine ret1 rfl hd (zA hN rfl) ⟨_, rfl, ?_⟩
 exact ⟨hb, hO28.cast (by simp) (by simp)⟩

theorem IdxT {L : List DTab} {v : Value} {p : DTab → Bool} {w : World} (hl : RdC w 0 w.heap.size 3 v L.length (L.flatMap cellsT)) {g : Nat} {fs cs : List Value} (hokg : callOk Try.prog g = true) (hf : ∀ i, i < L.length → ∀ w1, Below w.heap.size w w1 → Ret Try.prog g (fs ++ [(Value.agg #[(Value.string (bs (L.getD i default).t.nm)), (L.getD i default).cv, (L.getD i default).iv])] ++ cs).toArray w1 (fun v' w' => Below w1.heap.size w1 w' ∧ v' = .bool (p (L.getD i default)))) : Ret Try.prog 102 #[v, (Value.func (.func g) fs.toArray cs.toArray)] w (fun v' w' => Below w.heap.size w w' ∧ v' = .int .i64 (ixOf p L)) := by
 have hlm := rd_len hl
 have hb := Below.refl w.heap.size w
 refine enter (N := 19) Try.func102 rfl rfl (by simp) fun a0 hN hd hA => ?_
 have s0 : a0.tmps.getD 0 undef = v := hA 0 (by simp)
 have s1 : a0.tmps.getD 1 undef = (.func (.func g) fs.toArray cs.toArray) := hA 1 (by simp)
 clear hA
 refine zF fun K31 hK31 => ?_
 refine zH ?_
 refine zD rfl ?_
 refine zB ?_
 refine hK31 _ _ (zF fun K32 hK32 => ?_)
 refine zF fun K33 hK33 => ?_
 refine zH ?_
 refine zG (zC hN rfl s0) ?_
 refine op_len_rd Try.underlying36 (zA hN rfl) hl ?_
 refine zG rfl ?_
 refine zB ?_
 refine hK33 _ _ (wp_block ?_)
 refine loop_m (fun mz_ az_ w' => ∃ (i : Nat), mz_ = L.length - i ∧ (az_.tmps.getD 0 undef = v) ∧ (az_.tmps.getD 1 undef = (.func (.func g) fs.toArray cs.toArray)) ∧ (az_.tmps.getD 7 undef = (.int .i64 ((L.length : Nat) : Int))) ∧ (az_.tmps.getD 8 undef = (.int .i64 ((i : Nat) : Int))) ∧ (i ≤ L.length) ∧ (∀ j, j < i → p (L.getD j default) = false) ∧ (Below w.heap.size w w') ∧ (w.heap.size ≤ w'.heap.size) ∧ (RdC w' 0 w.heap.size 3 v L.length (L.flatMap cellsT))) _ hN hd ⟨0, rfl, (zL hN rfl s0), (zL hN rfl s1), (zU hN rfl), (zU hN rfl), (Nat.zero_le _), (fun _ h => absurd h (Nat.not_lt_zero _)), hb, (Nat.le_refl _), hl⟩ ?_
 rintro _ a34 w34 hN34 hd34 ⟨i, rfl, s34_0, s34_1, s34_7, s34_8, hi, hall, hb, zl_w34, hl⟩
 have := hb.size
 refine zF fun K35 hK35 => ?_
 refine zH ?_
 refine op_lss (zC hN34 rfl s34_8) (zC hN34 rfl s34_7) (fun c9 => ?_) (fun c9 => ?_)
 ·
  refine zB ?_
  refine hK35 _ _ (zF fun K36 hK36 => ?_)
  refine wp_cond_true (zA hN34 rfl) (wp_skip (hK36 _ _ (zF fun K37 hK37 => ?_)))
  refine wp_block ?_
  refine zF fun K38 hK38 => ?_
  refine zH ?_
  refine zG (zC hN34 rfl s34_8) ?_
  refine zD (zA hN34 rfl) ?_
  refine zB ?_
  refine hK38 _ _ (zF fun K39 hK39 => ?_)
  refine zH ?_
  refine zG (zC hN34 rfl s34_1) ?_
  refine zG (zC hN34 rfl s34_0) ?_
  refine zG (zA hN34 rfl) ?_
  refine zh slt36 (zA hN34 rfl) hl (zA hN34 rfl) zx zx ?_
  intro b40 o41 h0b40 h1b40 hc42
  refine zX (cs := [(.string (bs (L.getD i default).t.nm)), (L.getD i default).cv, (L.getD i default).iv]) agg55 rfl (zA hN34 rfl) (fun j u hu => hc42 j u (by have := (List.getElem?_eq_some_iff.1 hu).1; simpa using this) ((el_dt (i := i) zx zx) j u hu)) ?_
  refine op_fnv (fs := fs) (vs := [(.agg #[(.string (bs (L.getD i default).t.nm)), (L.getD i default).cv, (L.getD i default).iv])]) (cs := cs) (zA hN34 rfl) hokg ⟨(zA hN34 rfl), trivial⟩ (hf i zx _ hb) ?_
  rintro _ w43 ⟨E44, rfl⟩
  have E44 := zQ E44
  have := E44.size
  have hl := hl.keep0 E44
  have hb := zP hb E44 hb.size
  rcases Bool.eq_false_or_eq_true ((p (L.getD i default))) with c16 | c16
  ·
   rw [c16]
   refine zB ?_
   refine hK39 _ _ (wp_cond_true (zA hN34 rfl) (zF fun K45 hK45 => ?_))
   refine zH ?_
   refine zG (zA hN34 rfl) ?_
   refine zD (zA hN34 rfl) ?_
   refine zB ?_
   refine hK45 _ _ (wp_ret (zb (zO (zO (zb (zO ( ?_)))))))
   refine ret1 rfl hd34 (zA hN34 rfl) ⟨_, rfl, ?_⟩
   exact ⟨hb, congrArg (Value.int .i64) (ixOf_hit zx hall c16).symm⟩
  rw [c16]
  refine zB ?_
  refine hK39 _ _ (wp_cond_false (zA hN34 rfl) (wp_skip (hK37 _ _ (zH ?_))))
  refine op_add (zC hN34 rfl s34_8) rfl (add64 zx) ?_
  refine zG (zA hN34 rfl) ?_
  refine zB ?_
  -- round 9T 16F
  exact zg _ hN34 hd34 ⟨(i + 1), rfl, (zL hN34 rfl s34_0), (zL hN34 rfl s34_1), (zL hN34 rfl s34_7), (zU hN34 rfl).trans (congrArg (Value.int .i64) zx), zx, (all_next hall c16), hb, zx, hl⟩ zx
 refine zB ?_
 refine hK35 _ _ (zF fun K46 hK46 => ?_)
 refine wp_cond_false (zA hN34 rfl) (wp_exit (then_exit (then_exit (blk_hit ?_))))
 refine hK32 _ _ (zF fun K47 hK47 => ?_)
 refine zH ?_
 refine zD rfl ?_
 refine zB ?_
 refine hK47 _ _ (wp_ret ?_)
 refine ret1 rfl hd34 (zA hN34 rfl) ⟨_, rfl, ?_⟩
 exact ⟨hb, congrArg (Value.int .i64) (ixOf_none zx hall).symm⟩

theorem IdxC {L : List PCol} {v : Value} {p : PCol → Bool} {w : World} (hl : RdC w 0 w.heap.size 3 v L.length (L.flatMap cellsC)) {g : Nat} {fs cs : List Value} (hokg : callOk Try.prog g = true) (hf : ∀ i, i < L.length → ∀ w1, Below w.heap.size w w1 → Ret Try.prog g (fs ++ [(Value.agg #[(Value.string (bs (L.getD i default).nm)), (Value.int .i64 (L.getD i default).kind), (Value.string (bs (L.getD i default).ref))])] ++ cs).toArray w1 (fun v' w' => Below w1.heap.size w1 w' ∧ v' = .bool (p (L.getD i default)))) : Ret Try.prog 97 #[v, (Value.func (.func g) fs.toArray cs.toArray)] w (fun v' w' => Below w.heap.size w w' ∧ v' = .int .i64 (ixOf p L)) := by
 have hlm := rd_len hl
 have hb := Below.refl w.heap.size w
 refine enter (N := 19) Try.func97 rfl rfl (by simp) fun a0 hN hd hA => ?_
 have s0 : a0.tmps.getD 0 undef = v := hA 0 (by simp)
 have s1 : a0.tmps.getD 1 undef = (.func (.func g) fs.toArray cs.toArray) := hA 1 (by simp)
 clear hA
 refine zF fun K48 hK48 => ?_
 refine zH ?_
 refine zD rfl ?_
 refine zB ?_
 refine hK48 _ _ (zF fun K49 hK49 => ?_)
 refine zF fun K50 hK50 => ?_
 refine zH ?_
 refine zG (zC hN rfl s0) ?_
 refine op_len_rd Try.underlying41 (zA hN rfl) hl ?_
 refine zG rfl ?_
 refine zB ?_
 refine hK50 _ _ (wp_block ?_)
 refine loop_m (fun mz_ az_ w' => ∃ (i : Nat), mz_ = L.length - i ∧ (az_.tmps.getD 0 undef = v) ∧ (az_.tmps.getD 1 undef = (.func (.func g) fs.toArray cs.toArray)) ∧ (az_.tmps.getD 7 undef = (.int .i64 ((L.length : Nat) : Int))) ∧ (az_.tmps.getD 8 undef = (.int .i64 ((i : Nat) : Int))) ∧ (i ≤ L.length) ∧ (∀ j, j < i → p (L.getD j default) = false) ∧ (Below w.heap.size w w') ∧ (w.heap.size ≤ w'.heap.size) ∧ (RdC w' 0 w.heap.size 3 v L.length (L.flatMap cellsC))) _ hN hd ⟨0, rfl, (zL hN rfl s0), (zL hN rfl s1), (zU hN rfl), (zU hN rfl), (Nat.zero_le _), (fun _ h => absurd h (Nat.not_lt_zero _)), hb, (Nat.le_refl _), hl⟩ ?_
 rintro _ a51 w51 hN51 hd51 ⟨i, rfl, s51_0, s51_1, s51_7, s51_8, hi, hall, hb, zl_w51, hl⟩
 have := hb.size
 refine zF fun K52 hK52 => ?_
 refine zH ?_
 refine op_lss (zC hN51 rfl s51_8) (zC hN51 rfl s51_7) (fun c9 => ?_) (fun c9 => ?_)
 ·
  refine zB ?_
  refine hK52 _ _ (zF fun K53 hK53 => ?_)
  refine wp_cond_true (zA hN51 rfl) (wp_skip (hK53 _ _ (zF fun K54 hK54 => ?_)))
  refine wp_block ?_
  refine zF fun K55 hK55 => ?_
  refine zH ?_
  refine zG (zC hN51 rfl s51_8) ?_
  refine zD (zA hN51 rfl) ?_
  refine zB ?_
  refine hK55 _ _ (zF fun K56 hK56 => ?_)
  refine zH ?_
  refine zG (zC hN51 rfl s51_1) ?_
  refine zG (zC hN51 rfl s51_0) ?_
  refine zG (zA hN51 rfl) ?_
  refine zh slt41 (zA hN51 rfl) hl (zA hN51 rfl) zx zx ?_
  intro b57 o58 h0b57 h1b57 hc59
  refine zX (cs := [(.string (bs (L.getD i default).nm)), (.int .i64 (L.getD i default).kind), (.string (bs (L.getD i default).ref))]) agg68 rfl (zA hN51 rfl) (fun j u hu => hc59 j u (by have := (List.getElem?_eq_some_iff.1 hu).1; simpa using this) ((el_pc (i := i) zx zx) j u hu)) ?_
  refine op_fnv (fs := fs) (vs := [(.agg #[(.string (bs (L.getD i default).nm)), (.int .i64 (L.getD i default).kind), (.string (bs (L.getD i default).ref))])]) (cs := cs) (zA hN51 rfl) hokg ⟨(zA hN51 rfl), trivial⟩ (hf i zx _ hb) ?_
  rintro _ w60 ⟨E61, rfl⟩
  have E61 := zQ E61
  have := E61.size
  have hl := hl.keep0 E61
  have hb := zP hb E61 hb.size
  rcases Bool.eq_false_or_eq_true ((p (L.getD i default))) with c16 | c16
  ·
   rw [c16]
   refine zB ?_
   refine hK56 _ _ (wp_cond_true (zA hN51 rfl) (zF fun K62 hK62 => ?_))
   refine zH ?_
   refine zG (zA hN51 rfl) ?_
   refine zD (zA hN51 rfl) ?_
   refine zB ?_
   refine hK62 _ _ (wp_ret (zb (zO (zO (zb (zO ( ?_)))))))
   refine ret1 rfl hd51 (zA hN51 rfl) ⟨_, rfl, ?_⟩
   exact ⟨hb, congrArg (Value.int .i64) (ixOf_hit zx hall c16).symm⟩
  rw [c16]
  refine zB ?_
  refine hK56 _ _ (wp_cond_false (zA hN51 rfl) (wp_skip (hK54 _ _ (zH ?_))))
  refine op_add (zC hN51 rfl s51_8) rfl (add64 zx) ?_
  refine zG (zA hN51 rfl) ?_
  refine zB ?_
  -- round 9T 16F
  exact zg _ hN51 hd51 ⟨(i + 1), rfl, (zL hN51 rfl s51_0), (zL hN51 rfl s51_1), (zL hN51 rfl s51_7), (zU hN51 rfl).trans (congrArg (Value.int .i64) zx), zx, (all_next hall c16), hb, zx, hl⟩ zx
 refine zB ?_
 refine hK52 _ _ (zF fun K63 hK63 => ?_)
 refine wp_cond_false (zA hN51 rfl) (wp_exit (then_exit (then_exit (blk_hit ?_))))
 refine hK49 _ _ (zF fun K64 hK64 => ?_)
 refine zH ?_
 refine zD rfl ?_
 refine zB ?_
 refine hK64 _ _ (wp_ret ?_)
 refine ret1 rfl hd51 (zA hN51 rfl) ⟨_, rfl, ?_⟩
 exact ⟨hb, congrArg (Value.int .i64) (ixOf_none zx hall).symm⟩

theorem ofTable_ret (d : DTab) (w : World) : Ret Try.prog 85 #[(.agg #[(.string (bs d.t.nm)), d.cv, d.iv])] w (fun v' w' => Below w.heap.size w w' ∧ v' = .string (bs d.t.nm)) := by
 have hb := Below.refl w.heap.size w
 refine enter (N := 5) Try.func85 rfl rfl (by simp) fun a0 hN hd hA => ?_
 have s0 : a0.tmps.getD 0 undef = (.agg #[(.string (bs d.t.nm)), d.cv, d.iv]) := hA 0 (by simp)
 clear hA
 refine zF fun K65 hK65 => ?_
 refine zH ?_
 refine op_box (cs := [(.string (bs d.t.nm)), d.cv, d.iv]) (zC hN rfl s0) rfl ?_
 intro w66 b67 lo_b67 hi_b67 hB69 E68
 have := E68.size
 have hb := zP hb E68 hb.size
 refine zD rfl ?_
 refine zB ?_
 refine hK65 _ _ (zF fun K70 hK70 => ?_)
 refine zH ?_
 refine zM fld55_0 (zA hN rfl) ?_
 refine zN (v := (Value.string (bs d.t.nm))) one9 (zA hN rfl) (hB69.cell rfl) ?_
 refine zD (zA hN rfl) ?_
 refine zB ?_
 refine hK70 _ _ (wp_ret ?_)
 refine ret1 rfl hd (zA hN rfl) ⟨_, rfl, ?_⟩
 exact ⟨hb, rfl⟩

theorem ofCol_ret (d : PCol) (w : World) : Ret Try.prog 87 #[(.agg #[(.string (bs d.nm)), (.int .i64 d.kind), (.string (bs d.ref))])] w (fun v' w' => Below w.heap.size w w' ∧ v' = .string (bs d.nm)) := by
 have hb := Below.refl w.heap.size w
 refine enter (N := 5) Try.func87 rfl rfl (by simp) fun a0 hN hd hA => ?_
 have s0 : a0.tmps.getD 0 undef = (.agg #[(.string (bs d.nm)), (.int .i64 d.kind), (.string (bs d.ref))]) := hA 0 (by simp)
 clear hA
 refine zF fun K71 hK71 => ?_
 refine zH ?_
 refine op_box (cs := [(.string (bs d.nm)), (.int .i64 d.kind), (.string (bs d.ref))]) (zC hN rfl s0) rfl ?_
 intro w72 b73 lo_b73 hi_b73 hB75 E74
 have := E74.size
 have hb := zP hb E74 hb.size
 refine zD rfl ?_
 refine zB ?_
 refine hK71 _ _ (zF fun K76 hK76 => ?_)
 refine zH ?_
 refine zM fld68_0 (zA hN rfl) ?_
 refine zN (v := (Value.string (bs d.nm))) one9 (zA hN rfl) (hB75.cell rfl) ?_
 refine zD (zA hN rfl) ?_
 refine zB ?_
 refine hK76 _ _ (wp_ret ?_)
 refine ret1 rfl hd (zA hN rfl) ⟨_, rfl, ?_⟩
 exact ⟨hb, rfl⟩

theorem find1Table (d : DTab) (x : List UInt8) {fb nb : Nat} {w : World} (hf9 : Bx w fb 129 [.func (.func 85) #[] #[]]) (hn9 : Bx w nb 9 [.string (bs x)]) : Ret Try.prog 103 #[(.agg #[(.string (bs d.t.nm)), d.cv, d.iv]), (ptr fb 0), (ptr nb 0)] w (fun v' w' => Below w.heap.size w w' ∧ v' = .bool (decide (d.t.nm = x))) := by
 have hb := Below.refl w.heap.size w
 refine enter (N := 10) Try.func103 rfl rfl (by simp) fun a0 hN hd hA => ?_
 have s0 : a0.tmps.getD 0 undef = (.agg #[(.string (bs d.t.nm)), d.cv, d.iv]) := hA 0 (by simp)
 have s1 : a0.tmps.getD 1 undef = (ptr fb 0) := hA 1 (by simp)
 have s2 : a0.tmps.getD 2 undef = (ptr nb 0) := hA 2 (by simp)
 clear hA
 refine zF fun K77 hK77 => ?_
 refine zH ?_
 refine op_box (cs := [(.string (bs d.t.nm)), d.cv, d.iv]) (zC hN rfl s0) rfl ?_
 intro w78 b79 lo_b79 hi_b79 hB81 E80
 have := E80.size
 have hf9 := hf9.keep0 E80
 have hn9 := hn9.keep0 E80
 have hb := zP hb E80 hb.size
 refine zD rfl ?_
 refine zB ?_
 refine hK77 _ _ (zF fun K82 hK82 => ?_)
 refine reg_split (hd := [_, _, _, _]) (tl := _) 4 mixed zy rfl rfl ?_
 refine any_env (φ := phiV [(fun uz => uz = (.func (.func 85) #[] #[])), (fun uz => uz = (.agg #[(.string (bs d.t.nm)), d.cv, d.iv])), (fun _ => True), (fun uz => uz = (.string (bs x)))]) (G := fun w' => Bx w' fb 129 [(.func (.func 85) #[] #[])] ∧ Bx w' b79 55 [(.string (bs d.t.nm)), d.cv, d.iv] ∧ Bx w' nb 9 [(.string (bs x))]) [2] zy zy zy zy hN (fun w1 w2 E h => by obtain ⟨h0, h1, h2⟩ := h; exact ⟨h0.keep0 E, h1.keep0 E, h2.keep0 E⟩) ⟨hf9, hB81, hn9⟩ (ObEs.cons ?_ (ObEs.cons ?_ (ObEs.pass rfl (ObEs.cons ?_ (ObEs.nil))))) (by simp only [putsL_defers]) ?_
 ·
  intro eA aA wA hNA hGA hbsA hdpA
  have qA_1 := (hbsA 1 rfl).trans (zL hN rfl s1)
  obtain ⟨hf9, hB81, hn9⟩ := hGA
  refine zN (v := (Value.func (.func 85) #[] #[])) one129 (zC hNA rfl qA_1) (hf9.cell rfl) ?_
  exact obE_end rfl rfl rfl
 ·
  intro eA aA wA hNA hGA hbsA hdpA
  have qA_3 := (hbsA 3 rfl).trans (zU hN rfl)
  obtain ⟨hf9, hB81, hn9⟩ := hGA
  refine zY agg55 rfl (zC hNA rfl qA_3) hB81 ?_
  exact obE_end rfl rfl rfl
 ·
  intro eA aA wA hNA hGA hbsA hdpA
  have qA_2 := (hbsA 2 rfl).trans (zL hN rfl s2)
  obtain ⟨hf9, hB81, hn9⟩ := hGA
  refine zN (v := (Value.string (bs x))) one9 (zC hNA rfl qA_2) (hn9.cell rfl) ?_
  exact obE_end rfl rfl rfl
 intro w83 E83 _ a83 hN83 hbs83 hdp83 o_ ho_; obtain rfl := zE ho_
 have := E83.size
 have hf9 := hf9.keep0 E83
 have hn9 := hn9.keep0 E83
 have hB81 := hB81.keep0 E83
 have hb := zP hb E83 hb.size
 have q83_5 : Sl a83 5 (.func (.func 85) #[] #[]) := (hdp83 0 _ 5 zy rfl rfl).2 rfl
 have q83_6 : Sl a83 6 (.agg #[(.string (bs d.t.nm)), d.cv, d.iv]) := (hdp83 1 _ 6 zy rfl rfl).2 rfl
 refine op_fnv (fs := []) (vs := [(.agg #[(.string (bs d.t.nm)), d.cv, d.iv])]) (cs := []) (zC hN83 rfl q83_5) ok85 ⟨(zC hN83 rfl q83_6), trivial⟩ (ofTable_ret d _) ?_
 rintro _ w84 ⟨E85, rfl⟩
 have E85 := zQ E85
 have := E85.size
 have hf9 := hf9.keep0 E85
 have hn9 := hn9.keep0 E85
 have hB81 := hB81.keep0 E85
 have hb := zP hb E85 hb.size
 refine ke_end rfl zz rfl ⟨hf9, hB81, hn9⟩ ?_
 intro w86 E86 a86 hN86 hd86 hbs86 hph86
 have hd86 := hd86.trans ((by simp only [putsL_defers] : _ = _).trans hd)
 have := E86.size
 have hn9 := hn9.keep0 E86
 have hb := zP hb E86 hb.size
 have s86_7 : Sl a86 7 (.string (bs d.t.nm)) := (zE ((hph86 2 _ 7 rfl rfl).1 0 rfl)).symm
 have s86_8 : Sl a86 8 (.string (bs x)) := (hph86 3 _ 8 rfl rfl).2 rfl
 refine split_end ?_
 refine from_seq (tl := [_, _]) zz zy rfl ?_
 refine op_seql (zC hN86 rfl s86_7) (zC hN86 rfl s86_8) (fun c9 => ?_) (fun c9 => ?_)
 ·
  refine zD (zA hN86 rfl) ?_
  refine zB ?_
  refine hK82 _ _ (wp_ret ?_)
  refine ret1 rfl hd86 (zA hN86 rfl) ⟨_, rfl, ?_⟩
  exact ⟨hb, congrArg Value.bool (decide_eq_true c9).symm⟩
 refine zD (zA hN86 rfl) ?_
 refine zB ?_
 refine hK82 _ _ (wp_ret ?_)
 refine ret1 rfl hd86 (zA hN86 rfl) ⟨_, rfl, ?_⟩
 exact ⟨hb, congrArg Value.bool (decide_eq_false c9).symm⟩

theorem findTable {L : List DTab} {v : Value} (x : List UInt8) {w : World} (hl : RdC w 0 w.heap.size 3 v L.length (L.flatMap cellsT)) : Ret Try.prog 84 #[v, (.string (bs x)), (.func (.func 85) #[] #[])] w (fun v' w' => Below w.heap.size w w' ∧ v' = .int .i64 (ixOf (fun d => decide (d.t.nm = x)) L)) := by
 have hb := Below.refl w.heap.size w
 refine enter (N := 10) Try.func84 rfl rfl (by simp) fun a0 hN hd hA => ?_
 have s0 : a0.tmps.getD 0 undef = v := hA 0 (by simp)
 have s1 : a0.tmps.getD 1 undef = (.string (bs x)) := hA 1 (by simp)
 have s2 : a0.tmps.getD 2 undef = (.func (.func 85) #[] #[]) := hA 2 (by simp)
 clear hA
 refine zF fun K87 hK87 => ?_
 refine zH ?_
 refine op_box (cs := [(.string (bs x))]) (zC hN rfl s1) rfl ?_
 intro w88 b89 lo_b89 hi_b89 hB91 E90
 have := E90.size
 have hl := hl.keep0 E90
 have hb := zP hb E90 hb.size
 refine op_box (cs := [(.func (.func 85) #[] #[])]) (zC hN rfl s2) rfl ?_
 intro w92 b93 lo_b93 hi_b93 hB95 E94
 have := E94.size
 have hl := hl.keep0 E94
 have hB91 := hB91.keep0 E94
 have hb := zP hb E94 hb.size
 refine zD rfl ?_
 refine zB ?_
 refine hK87 _ _ (zF fun K96 hK96 => ?_)
 refine zH ?_
 refine zG (zC hN rfl s0) ?_
 refine op_mkfn (cv := [(ptr b93 0), (ptr b89 0)]) ⟨(zA hN rfl), ⟨(zA hN rfl), trivial⟩⟩ ?_
 refine zj ok102 (IdxT (g := 103) (fs := []) (cs := [(ptr b93 0), (ptr b89 0)]) (p := (fun d => decide (d.t.nm = x))) (hl.mono (Nat.zero_le _) zx) ok103 (fun i hi w1 E9 => find1Table (L.getD i default) x (hB95.keep0 (zQ E9)) (hB91.keep0 (zQ E9)))) ⟨(zA hN rfl), ⟨(zA hN rfl), trivial⟩⟩ ?_
 rintro _ w97 ⟨E98, rfl⟩
 have E98 := zQ E98
 have := E98.size
 have hl := hl.keep0 E98
 have hb := zP hb E98 hb.size
 refine zD (zA hN rfl) ?_
 refine zB ?_
 refine hK96 _ _ (wp_ret ?_)
 refine ret1 rfl hd (zA hN rfl) ⟨_, rfl, ?_⟩
 exact ⟨hb, rfl⟩

theorem find1Col (d : PCol) (x : List UInt8) {fb nb : Nat} {w : World} (hf9 : Bx w fb 131 [.func (.func 87) #[] #[]]) (hn9 : Bx w nb 9 [.string (bs x)]) : Ret Try.prog 104 #[(.agg #[(.string (bs d.nm)), (.int .i64 d.kind), (.string (bs d.ref))]), (ptr fb 0), (ptr nb 0)] w (fun v' w' => Below w.heap.size w w' ∧ v' = .bool (decide (d.nm = x))) := by
 have hb := Below.refl w.heap.size w
 refine enter (N := 10) Try.func104 rfl rfl (by simp) fun a0 hN hd hA => ?_
 have s0 : a0.tmps.getD 0 undef = (.agg #[(.string (bs d.nm)), (.int .i64 d.kind), (.string (bs d.ref))]) := hA 0 (by simp)
 have s1 : a0.tmps.getD 1 undef = (ptr fb 0) := hA 1 (by simp)
 have s2 : a0.tmps.getD 2 undef = (ptr nb 0) := hA 2 (by simp)
 clear hA
 refine zF fun K99 hK99 => ?_
 refine zH ?_
 refine op_box (cs := [(.string (bs d.nm)), (.int .i64 d.kind), (.string (bs d.ref))]) (zC hN rfl s0) rfl ?_
 intro w100 b101 lo_b101 hi_b101 hB103 E102
 have := E102.size
 have hf9 := hf9.keep0 E102
 have hn9 := hn9.keep0 E102
 have hb := zP hb E102 hb.size
 refine zD rfl ?_
 refine zB ?_
 refine hK99 _ _ (zF fun K104 hK104 => ?_)
 refine reg_split (hd := [_, _, _, _]) (tl := _) 4 mixed zy rfl rfl ?_
 refine any_env (φ := phiV [(fun uz => uz = (.func (.func 87) #[] #[])), (fun uz => uz = (.agg #[(.string (bs d.nm)), (.int .i64 d.kind), (.string (bs d.ref))])), (fun _ => True), (fun uz => uz = (.string (bs x)))]) (G := fun w' => Bx w' fb 131 [(.func (.func 87) #[] #[])] ∧ Bx w' b101 68 [(.string (bs d.nm)), (.int .i64 d.kind), (.string (bs d.ref))] ∧ Bx w' nb 9 [(.string (bs x))]) [2] zy zy zy zy hN (fun w1 w2 E h => by obtain ⟨h0, h1, h2⟩ := h; exact ⟨h0.keep0 E, h1.keep0 E, h2.keep0 E⟩) ⟨hf9, hB103, hn9⟩ (ObEs.cons ?_ (ObEs.cons ?_ (ObEs.pass rfl (ObEs.cons ?_ (ObEs.nil))))) (by simp only [putsL_defers]) ?_
 ·
  intro eA aA wA hNA hGA hbsA hdpA
  have qA_1 := (hbsA 1 rfl).trans (zL hN rfl s1)
  obtain ⟨hf9, hB103, hn9⟩ := hGA
  refine zN (v := (Value.func (.func 87) #[] #[])) one131 (zC hNA rfl qA_1) (hf9.cell rfl) ?_
  exact obE_end rfl rfl rfl
 ·
  intro eA aA wA hNA hGA hbsA hdpA
  have qA_3 := (hbsA 3 rfl).trans (zU hN rfl)
  obtain ⟨hf9, hB103, hn9⟩ := hGA
  refine zY agg68 rfl (zC hNA rfl qA_3) hB103 ?_
  exact obE_end rfl rfl rfl
 ·
  intro eA aA wA hNA hGA hbsA hdpA
  have qA_2 := (hbsA 2 rfl).trans (zL hN rfl s2)
  obtain ⟨hf9, hB103, hn9⟩ := hGA
  refine zN (v := (Value.string (bs x))) one9 (zC hNA rfl qA_2) (hn9.cell rfl) ?_
  exact obE_end rfl rfl rfl
 intro w105 E105 _ a105 hN105 hbs105 hdp105 o_ ho_; obtain rfl := zE ho_
 have := E105.size
 have hf9 := hf9.keep0 E105
 have hn9 := hn9.keep0 E105
 have hB103 := hB103.keep0 E105
 have hb := zP hb E105 hb.size
 have q105_5 : Sl a105 5 (.func (.func 87) #[] #[]) := (hdp105 0 _ 5 zy rfl rfl).2 rfl
 have q105_6 : Sl a105 6 (.agg #[(.string (bs d.nm)), (.int .i64 d.kind), (.string (bs d.ref))]) := (hdp105 1 _ 6 zy rfl rfl).2 rfl
 refine op_fnv (fs := []) (vs := [(.agg #[(.string (bs d.nm)), (.int .i64 d.kind), (.string (bs d.ref))])]) (cs := []) (zC hN105 rfl q105_5) ok87 ⟨(zC hN105 rfl q105_6), trivial⟩ (ofCol_ret d _) ?_
 rintro _ w106 ⟨E107, rfl⟩
 have E107 := zQ E107
 have := E107.size
 have hf9 := hf9.keep0 E107
 have hn9 := hn9.keep0 E107
 have hB103 := hB103.keep0 E107
 have hb := zP hb E107 hb.size
 refine ke_end rfl zz rfl ⟨hf9, hB103, hn9⟩ ?_
 intro w108 E108 a108 hN108 hd108 hbs108 hph108
 have hd108 := hd108.trans ((by simp only [putsL_defers] : _ = _).trans hd)
 have := E108.size
 have hn9 := hn9.keep0 E108
 have hb := zP hb E108 hb.size
 have s108_7 : Sl a108 7 (.string (bs d.nm)) := (zE ((hph108 2 _ 7 rfl rfl).1 0 rfl)).symm
 have s108_8 : Sl a108 8 (.string (bs x)) := (hph108 3 _ 8 rfl rfl).2 rfl
 refine split_end ?_
 refine from_seq (tl := [_, _]) zz zy rfl ?_
 refine op_seql (zC hN108 rfl s108_7) (zC hN108 rfl s108_8) (fun c9 => ?_) (fun c9 => ?_)
 ·
  refine zD (zA hN108 rfl) ?_
  refine zB ?_
  refine hK104 _ _ (wp_ret ?_)
  refine ret1 rfl hd108 (zA hN108 rfl) ⟨_, rfl, ?_⟩
  exact ⟨hb, congrArg Value.bool (decide_eq_true c9).symm⟩
 refine zD (zA hN108 rfl) ?_
 refine zB ?_
 refine hK104 _ _ (wp_ret ?_)
 refine ret1 rfl hd108 (zA hN108 rfl) ⟨_, rfl, ?_⟩
 exact ⟨hb, congrArg Value.bool (decide_eq_false c9).symm⟩

theorem findCol {L : List PCol} {v : Value} (x : List UInt8) {w : World} (hl : RdC w 0 w.heap.size 3 v L.length (L.flatMap cellsC)) : Ret Try.prog 86 #[v, (.string (bs x)), (.func (.func 87) #[] #[])] w (fun v' w' => Below w.heap.size w w' ∧ v' = .int .i64 (ixOf (fun d => decide (d.nm = x)) L)) := by
 have hb := Below.refl w.heap.size w
 refine enter (N := 10) Try.func86 rfl rfl (by simp) fun a0 hN hd hA => ?_
 have s0 : a0.tmps.getD 0 undef = v := hA 0 (by simp)
 have s1 : a0.tmps.getD 1 undef = (.string (bs x)) := hA 1 (by simp)
 have s2 : a0.tmps.getD 2 undef = (.func (.func 87) #[] #[]) := hA 2 (by simp)
 clear hA
 refine zF fun K109 hK109 => ?_
 refine zH ?_
 refine op_box (cs := [(.string (bs x))]) (zC hN rfl s1) rfl ?_
 intro w110 b111 lo_b111 hi_b111 hB113 E112
 have := E112.size
 have hl := hl.keep0 E112
 have hb := zP hb E112 hb.size
 refine op_box (cs := [(.func (.func 87) #[] #[])]) (zC hN rfl s2) rfl ?_
 intro w114 b115 lo_b115 hi_b115 hB117 E116
 have := E116.size
 have hl := hl.keep0 E116
 have hB113 := hB113.keep0 E116
 have hb := zP hb E116 hb.size
 refine zD rfl ?_
 refine zB ?_
 refine hK109 _ _ (zF fun K118 hK118 => ?_)
 refine zH ?_
 refine zG (zC hN rfl s0) ?_
 refine op_mkfn (cv := [(ptr b115 0), (ptr b111 0)]) ⟨(zA hN rfl), ⟨(zA hN rfl), trivial⟩⟩ ?_
 refine zj ok97 (IdxC (g := 104) (fs := []) (cs := [(ptr b115 0), (ptr b111 0)]) (p := (fun d => decide (d.nm = x))) (hl.mono (Nat.zero_le _) zx) ok104 (fun i hi w1 E9 => find1Col (L.getD i default) x (hB117.keep0 (zQ E9)) (hB113.keep0 (zQ E9)))) ⟨(zA hN rfl), ⟨(zA hN rfl), trivial⟩⟩ ?_
 rintro _ w119 ⟨E120, rfl⟩
 have E120 := zQ E120
 have := E120.size
 have hl := hl.keep0 E120
 have hb := zP hb E120 hb.size
 refine zD (zA hN rfl) ?_
 refine zB ?_
 refine hK118 _ _ (wp_ret ?_)
 refine ret1 rfl hd (zA hN rfl) ⟨_, rfl, ?_⟩
 exact ⟨hb, rfl⟩
def CopyX (e : XE) : Prop := ∀ ⦃w : World⦄, XFr w 0 w.heap.size e → Ret Try.prog 109 #[(Value.agg #[(Value.int .i64 e.op), (Value.int .i64 e.vk), (Value.int .i64 e.vi), (Value.string (bs e.vt)), (Value.string (bs e.tb)), (Value.string (bs e.nm)), e.av])] w (fun v' w' => Below w.heap.size w w' ∧ ∃ e2 : XE, v' = (Value.agg #[(Value.int .i64 e2.op), (Value.int .i64 e2.vk), (Value.int .i64 e2.vi), (Value.string (bs e2.vt)), (Value.string (bs e2.tb)), (Value.string (bs e2.nm)), e2.av]) ∧ XFr w' w.heap.size w'.heap.size e2 ∧ XSame e e2)

theorem twinsX {v : Value} {E : List XE} {w : World} (ih : ∀ a ∈ E, CopyX a) (hX : XsFr w 0 w.heap.size v E) : Ret Try.prog 108 #[v, (.func (.func 109) #[] #[])] w (fun v' w' => Below w.heap.size w w' ∧ ∃ E2 : List XE, XsFr w' w.heap.size w'.heap.size v' E2 ∧ XsSame E E2) := by
 have hR := hX.1
 have hlm := hX.3
 have hb := Below.refl w.heap.size w
 refine enter (N := 22) Try.func108 rfl rfl (by simp) fun a0 hN hd hA => ?_
 have s0 : a0.tmps.getD 0 undef = v := hA 0 (by simp)
 have s1 : a0.tmps.getD 1 undef = (.func (.func 109) #[] #[]) := hA 1 (by simp)
 clear hA
 refine zF fun K1 hK1 => ?_
 refine zH ?_
 refine zD rfl ?_
 refine zB ?_
 refine hK1 _ _ (zF fun K2 hK2 => ?_)
 refine zH ?_
 refine zD rfl ?_
 refine zB ?_
 refine hK2 _ _ (zF fun K3 hK3 => ?_)
 refine zF fun K4 hK4 => ?_
 refine zH ?_
 refine zG (zC hN rfl s0) ?_
 refine op_len_rd Try.underlying26 (zA hN rfl) hR ?_
 refine zG rfl ?_
 refine zB ?_
 refine hK4 _ _ (wp_block ?_)
 refine loop_m (fun mz_ az_ w' => ∃ (i : Nat) (lv2 : Value) (E2 : List XE) (F0S : Nat → Prop), mz_ = E.length - i ∧ (az_.tmps.getD 1 undef = (.func (.func 109) #[] #[])) ∧ (az_.tmps.getD 4 undef = (.slice none 0 0)) ∧ (az_.tmps.getD 8 undef = v) ∧ (az_.tmps.getD 9 undef = (.int .i64 ((E.length : Nat) : Int))) ∧ (az_.tmps.getD 10 undef = (.int .i64 ((i : Nat) : Int))) ∧ (az_.tmps.getD 5 undef = lv2) ∧ (i ≤ E.length) ∧ (E2.length = i) ∧ (∀ j, j < i → XSame (E.getD j default) (E2.getD j default)) ∧ (Dj (Bl lv2) F0S) ∧ (Below w.heap.size w w') ∧ (w.heap.size ≤ w'.heap.size) ∧ (XsFr w' 0 w.heap.size v E) ∧ (RdC w' 0 w.heap.size 7 v E.length (E.flatMap cellsX)) ∧ (XsIn w' w.heap.size E2 F0S) ∧ (Own w' w.heap.size 28 7 lv2 E2.length (E2.flatMap cellsX))) _ hN hd ⟨0, (.slice none 0 0), [], NoB, rfl, (zL hN rfl s1), (zU hN rfl), (zU hN rfl), (zU hN rfl), (zU hN rfl), (zU hN rfl), (Nat.zero_le _), rfl, (fun _ h => absurd h (Nat.not_lt_zero _)), (Dj.nil _).symm, hb, (Nat.le_refl _), hX, hR, (XsIn.nil _ _), (Own.nil _ _ _ _)⟩ ?_
 rintro _ a5 w5 hN5 hd5 ⟨i, lv2, E2, F0S, rfl, s5_1, s5_4, s5_8, s5_9, s5_10, s5_5, hi, hl2, hS, hdj, hb, zl_w5, hX, hR, hA, hO6⟩
 have := hb.size
 refine zF fun K7 hK7 => ?_
 refine zH ?_
 refine op_lss (zC hN5 rfl s5_10) (zC hN5 rfl s5_9) (fun c11 => ?_) (fun c11 => ?_)
 ·
  refine zB ?_
  refine hK7 _ _ (zF fun K8 hK8 => ?_)
  refine wp_cond_true (zA hN5 rfl) (wp_skip (hK8 _ _ (zF fun K9 hK9 => ?_)))
  refine wp_block ?_
  refine zF fun K10 hK10 => ?_
  refine zH ?_
  refine zh slt26 (zC hN5 rfl s5_8) hR (zC hN5 rfl s5_10) zx zx ?_
  intro b11 o12 h0b11 h1b11 hc13
  refine zX (cs := [(.int .i64 (E.getD i default).op), (.int .i64 (E.getD i default).vk), (.int .i64 (E.getD i default).vi), (.string (bs (E.getD i default).vt)), (.string (bs (E.getD i default).tb)), (.string (bs (E.getD i default).nm)), (E.getD i default).av]) agg28 rfl (zA hN5 rfl) (fun j u hu => hc13 j u (by have := (List.getElem?_eq_some_iff.1 hu).1; simpa using this) ((el_xe (i := i) zx zx) j u hu)) ?_
  refine op_alloc (cs := [(.int .i64 0), (.int .i64 0), (.int .i64 0), (.string (bs [])), (.string (bs [])), (.string (bs [])), (.slice none 0 0)]) zero28 rfl ?_
  intro w14 b15 lo_b15 hi_b15 hB17 E16
  have dj18 : ¬ F0S b15 := fun hf => by have := (hA.lt _ hf).2; omega
  have ne_b15_lv2 : lv2.ownBlock ≠ some b15 := fun hh => by have := (hO6.lt _ hh).2; omega
  have := E16.size
  have hX := hX.keep0 E16
  have hR := hR.keep0 E16
  have hA := hA.keepG (zi E16 NoB) (fun _ _ h => h)
  have hO6 := hO6.keep0 E16
  have hb := zP hb E16 hb.size
  refine zZ size28 (zA hN5 rfl) (zA hN5 rfl) rfl (by simp only [List.all_cons, List.all_nil, Bool.true_and, Bool.and_true, (hX.2 (E.getD i default) (getD_mem zx)).list.1.one]; try rfl) hB17 rfl ?_
  intro w21 hB17 E22
  have := E22.size
  have hX := hX.keep E22 sO
  have hR := hR.keep E22 sR
  have hA := hA.keepG (Gr.of E22) (Dj.one dj18)
  have hO6 := hO6.keep E22 (.inr ne_b15_lv2)
  have hb := below_step1 hb E22 hb.size zx
  refine zB ?_
  refine hK10 _ _ (zH ?_)
  refine zG (zC hN5 rfl s5_5) ?_
  refine zG (zC hN5 rfl s5_1) ?_
  refine zY agg28 rfl (zA hN5 rfl) hB17 ?_
  refine op_fnv (fs := []) (vs := [(.agg #[(.int .i64 (E.getD i default).op), (.int .i64 (E.getD i default).vk), (.int .i64 (E.getD i default).vi), (.string (bs (E.getD i default).vt)), (.string (bs (E.getD i default).tb)), (.string (bs (E.getD i default).nm)), (E.getD i default).av])]) (cs := []) (zA hN5 rfl) ok109 ⟨(zA hN5 rfl), trivial⟩ (ih _ (getD_mem zx) ((hX.2 _ (getD_mem zx)).mono (Nat.zero_le _) zx)) ?_
  rintro _ w24 ⟨E25, a23, rfl, hx23, hq23⟩
  have lw_lv2 := fun k hk => (hO6.lt k hk).2
  have ap26 : ∀ k, lv2.ownBlock = some k → k < w21.heap.size ∨ w24.heap.size ≤ k := fun k hk => .inl (lw_lv2 k hk)
  have E25 := zQ E25
  have := E25.size
  have hX := hX.keep0 E25
  have hR := hR.keep0 E25
  have hA := hA.keepG (zi E25 NoB) (fun _ _ h => h)
  have hO6 := hO6.keep0 E25
  have hb := zP hb E25 hb.size
  refine op_bslice (e := 28) (pv := [(0, (.agg #[(.int .i64 a23.op), (.int .i64 a23.vk), (.int .i64 a23.vi), (.string (bs a23.vt)), (.string (bs a23.tb)), (.string (bs a23.nm)), a23.av]))]) (cs := [(.int .i64 a23.op), (.int .i64 a23.vk), (.int .i64 a23.vi), (.string (bs a23.vt)), (.string (bs a23.tb)), (.string (bs a23.nm)), a23.av]) ⟨rfl, (zA hN5 rfl), trivial⟩ zy ?_
  intro w27 b28 lo_b28 hi_b28 hB30 E29
  have := E29.size
  have hX := hX.keep0 E29
  have hR := hR.keep0 E29
  have hA := hA.keepG (zi E29 NoB) (fun _ _ h => h)
  have hO6 := hO6.keep0 E29
  have hx23 := hx23.keep0 E29
  have hb := zP hb E29 hb.size
  have hP37 := hO6
  refine op_append slt26 (zA hN5 rfl) hP37 (zA hN5 rfl) (Src.ofRd Try.underlying26 zz (RdC.ofBx (sz := 7) (n := 1) hB30 rfl zz) (by simp only [List.all_cons, List.all_nil, Bool.true_and, Bool.and_true, hx23.list.1.one]; try rfl)) (by unfold maxLen; omega) zx hb.size ?_
  intro v32 w33 hO35 E34 hm36
  have dj38 : Dj F0S (Bl v32) := Dj.step hm36 (fun k hk => (hA.lt k hk).2) hdj.symm
  have := E34.size
  have hX := hX.keepO hP37 E34 zx
  have hR := hR.keepO hP37 E34 zx
  have hA := hA.keepG (Gr.of E34) hdj.symm
  have hx23 := hx23.keep E34 ap26
  have hb := below_stepO hb hP37 E34 hb.size zx
  have hO35 : Own w33 w.heap.size 28 7 v32 (E2.length + 1) ((E2.flatMap cellsX ++ [(.int .i64 a23.op), (.int .i64 a23.vk), (.int .i64 a23.vi), (.string (bs a23.vt)), (.string (bs a23.tb)), (.string (bs a23.nm)), a23.av])) := by simpa [u8v, u16v, sv, cellsI, cellsC, cellsX, cellsS] using hO35
  refine zD (zA hN5 rfl) ?_
  refine zB ?_
  refine hK9 _ _ (zH ?_)
  refine op_add (zC hN5 rfl s5_10) rfl (add64 zx) ?_
  refine zG (zA hN5 rfl) ?_
  refine zB ?_
  -- round 11T
  exact zg _ hN5 hd5 ⟨(i + 1), v32, (E2 ++ [a23]), _, rfl, (zL hN5 rfl s5_1), (zL hN5 rfl s5_4), (zL hN5 rfl s5_8), (zL hN5 rfl s5_9), (zU hN5 rfl).trans (congrArg (Value.int .i64) zx), (zU hN5 rfl), zx, (by simp; omega), (same_next hl2 hS hq23), (dj_app dj38 hm36 lw_lv2 zx), hb, zx, hX, hR, (hA.snoc (a := a23) hx23 zx zx), (hO35.cast (by simp) (by simp [cellsX, cellsS]))⟩ zx
 refine zB ?_
 refine hK7 _ _ (zF fun K39 hK39 => ?_)
 refine wp_cond_false (zA hN5 rfl) (wp_exit (then_exit (then_exit (blk_hit ?_))))
 refine hK3 _ _ (zF fun K40 hK40 => ?_)
 refine zH ?_
 refine zG (zC hN5 rfl s5_5) ?_
 refine zD (zA hN5 rfl) ?_
 refine zB ?_
 refine hK40 _ _ (wp_ret ?_)
 refine ret1 rfl hd5 (zA hN5 rfl) ⟨_, rfl, ?_⟩
 obtain rfl : i = E.length := by omega
 exact ⟨hb, E2, hA.fr zx hO6, hl2.symm, hS⟩

theorem CopyX_in (e : XE) {w : World} (ih : ∀ a ∈ e.args, CopyX a) (he : XFr w 0 w.heap.size e) : Ret Try.prog 109 #[(.agg #[(.int .i64 e.op), (.int .i64 e.vk), (.int .i64 e.vi), (.string (bs e.vt)), (.string (bs e.tb)), (.string (bs e.nm)), e.av])] w (fun v' w' => Below w.heap.size w w' ∧ ∃ e2 : XE, v' = (.agg #[(.int .i64 e2.op), (.int .i64 e2.vk), (.int .i64 e2.vi), (.string (bs e2.vt)), (.string (bs e2.tb)), (.string (bs e2.nm)), e2.av]) ∧ XFr w' w.heap.size w'.heap.size e2 ∧ XSame e e2) := by
 have hX := he.list
 have hR := hX.1
 have hb := Below.refl w.heap.size w
 refine enter (N := 8) Try.func109 rfl rfl (by simp) fun a0 hN hd hA => ?_
 have s0 : a0.tmps.getD 0 undef = (.agg #[(.int .i64 e.op), (.int .i64 e.vk), (.int .i64 e.vi), (.string (bs e.vt)), (.string (bs e.tb)), (.string (bs e.nm)), e.av]) := hA 0 (by simp)
 clear hA
 refine zF fun K1 hK1 => ?_
 refine zH ?_
 refine op_box (cs := [(.int .i64 e.op), (.int .i64 e.vk), (.int .i64 e.vi), (.string (bs e.vt)), (.string (bs e.tb)), (.string (bs e.nm)), e.av]) (zC hN rfl s0) rfl ?_
 intro w2 b3 lo_b3 hi_b3 hB5 E4
 have := E4.size
 have hX := hX.keep0 E4
 have hb := zP hb E4 hb.size
 refine op_alloc (cs := [(.int .i64 0), (.int .i64 0), (.int .i64 0), (.string (bs [])), (.string (bs [])), (.string (bs [])), (.slice none 0 0)]) zero28 rfl ?_
 intro w6 b7 lo_b7 hi_b7 hB9 E8
 have := E8.size
 have hX := hX.keep0 E8
 have hB5 := hB5.keep0 E8
 have hb := zP hb E8 hb.size
 refine zB ?_
 refine hK1 _ _ (zF fun K10 hK10 => ?_)
 refine zH ?_
 refine zM fld28_4 (zA hN rfl) ?_
 refine zN (v := e.av) one26 (zA hN rfl) (hB5.cell rfl) ?_
 refine zj ok108 (twinsX ih (hX.mono (Nat.zero_le _) zx)) ⟨(zA hN rfl), ⟨rfl, trivial⟩⟩ ?_
 rintro v11 w12 ⟨E13, E11x, hx11, hq11⟩
 have E13 := zQ E13
 have := E13.size
 obtain ⟨hB5, hB9⟩ := kb2 E13 hB5 hB9
 have hb := zP hb E13 hb.size
 refine zM fld28_4 (zA hN rfl) ?_
 refine za (vs := [v11]) (cs' := [(.int .i64 e.op), (.int .i64 e.vk), (.int .i64 e.vi), (.string (bs e.vt)), (.string (bs e.tb)), (.string (bs e.nm)), v11]) size26 (zA hN rfl) (zA hN rfl) hx11.1.cl rfl (by simp only [List.all_cons, List.all_nil, Bool.true_and, Bool.and_true, hx11.1.one]; try rfl) hB5 (zI rfl) rfl ?_
 intro w16 hB5 E17
 have := E17.size
 have hB9 := hB9.keep E17 sB
 have hx11 := hx11.keep E17 sO
 have hb := below_step1 hb E17 hb.size zx
 refine zB ?_
 refine hK10 _ _ (zF fun K18 hK18 => ?_)
 refine zH ?_
 refine zY agg28 rfl (zA hN rfl) hB5 ?_
 refine zZ size28 (zA hN rfl) (zA hN rfl) rfl (by simp only [List.all_cons, List.all_nil, Bool.true_and, Bool.and_true, hx11.1.one]; try rfl) hB9 rfl ?_
 intro w21 hB9 E22
 have := E22.size
 have hx11 := hx11.keep E22 sO
 have hb := below_step1 hb E22 hb.size zx
 refine zB ?_
 refine hK18 _ _ (wp_ret ?_)
 refine retC rfl hd (zA hN rfl) agg28 rfl hB9 ⟨_, rfl, ?_⟩
 exact ⟨hb, (XE.mk e.op e.vk e.vi e.vt e.tb e.nm v11 E11x), rfl, XsFr.node (x := (XE.mk e.op e.vk e.vi e.vt e.tb e.nm v11 E11x)) (hx11.mono zx zx), .mk ⟨rfl, rfl, rfl, rfl, rfl, rfl⟩ hq11.1 hq11.2⟩

theorem CopyX_all : ∀ e, CopyX e := XE.ind fun e ih _ he => CopyX_in e ih he
def CopyS (e : XS) : Prop := ∀ ⦃w : World⦄, SFr w 0 w.heap.size e → Ret Try.prog 92 #[(Value.agg #[(Value.int .i64 e.f.kind), (Value.string (bs e.f.tb)), (Value.string (bs e.f.nm)), e.f.cv, e.f.gv, e.f.vv, e.f.iv, (Value.string (bs e.f.join)), e.f.ov, e.f.wv, e.f.rv, (Value.bool e.f.desc), e.nv])] w (fun v' w' => Below w.heap.size w w' ∧ ∃ e2 : XS, v' = (Value.agg #[(Value.int .i64 e2.f.kind), (Value.string (bs e2.f.tb)), (Value.string (bs e2.f.nm)), e2.f.cv, e2.f.gv, e2.f.vv, e2.f.iv, (Value.string (bs e2.f.join)), e2.f.ov, e2.f.wv, e2.f.rv, (Value.bool e2.f.desc), e2.nv]) ∧ SFr w' w.heap.size w'.heap.size e2 ∧ SSame e e2)

theorem CloneU (l : List (UInt16)) (v : Value) (w : World) (hz : l.length ≤ 1000000000) (hl : RdC w 0 w.heap.size 1 v l.length (l.map u16v)) : Ret Try.prog 106 #[v] w (fun v' w' => Below w.heap.size w w' ∧ Own w' w.heap.size 74 1 v' l.length (l.map u16v)) := by
 have hb := Below.refl w.heap.size w
 refine enter (N := 8) Try.func106 rfl rfl (by simp) fun a0 hN hd hA => ?_
 have s0 : a0.tmps.getD 0 undef = v := hA 0 (by simp)
 clear hA
 refine zF fun K1 hK1 => ?_
 refine zH ?_
 refine zD rfl ?_
 refine zB ?_
 refine hK1 _ _ (zF fun K2 hK2 => ?_)
 refine zF fun K3 hK3 => ?_
 refine zH ?_
 refine zG (zC hN rfl s0) ?_
 refine op_eql_nil slt42 (zA hN rfl) rfl hl (fun c4 => ?_) ?_
 ·
  refine zB ?_
  refine hK3 _ _ (wp_cond_true (zA hN rfl) (zF fun K4 hK4 => ?_))
  refine zH ?_
  refine zD rfl ?_
  refine zB ?_
  refine hK4 _ _ (wp_ret (zO ( ?_)))
  refine ret1 rfl hd (zA hN rfl) ⟨_, rfl, ?_⟩
  exact ⟨hb, by rw [List.length_eq_zero_iff.1 c4]; exact Own.nil _ _ _ _⟩
 refine zB ?_
 refine hK3 _ _ (wp_cond_false (zA hN rfl) (wp_skip (hK2 _ _ (zF fun K5 hK5 => ?_))))
 refine zH ?_
 refine op_bslice (e := 74) (pv := []) (cs := []) trivial zy ?_
 intro w6 b7 lo_b7 hi_b7 hB9 E8
 have := E8.size
 have hl := hl.keep0 E8
 have hb := zP hb E8 hb.size
 refine zG (zC hN rfl s0) ?_
 have hP15 := (Own.ofBx (base := w.heap.size) (sz := 1) (n := 0) hB9 rfl zz zx)
 refine op_append slt42 (zA hN rfl) hP15 (zA hN rfl) (Src.ofRd Try.underlying42 zz hl (one_u16 _)) (by unfold maxLen; omega) zx hb.size ?_
 intro v10 w11 hO13 E12 hm14
 have := E12.size
 have hl := hl.keepO hP15 E12 zx
 have hb := below_stepO hb hP15 E12 hb.size zx
 have hO13 : Own w11 w.heap.size 74 1 v10 (0 + l.length) ((l).map u16v) := by simpa [u8v, u16v, sv, cellsI, cellsC, cellsX, cellsS] using hO13
 refine zD (zA hN rfl) ?_
 refine zB ?_
 refine hK5 _ _ (wp_ret ?_)
 refine ret1 rfl hd (zA hN rfl) ⟨_, rfl, ?_⟩
 exact ⟨hb, hO13.cast (by simp) (by simp)⟩

theorem CloneI (l : List (PItm)) (v : Value) (w : World) (hz : l.length ≤ 1000000000) (hl : RdC w 0 w.heap.size 3 v l.length (l.flatMap cellsI)) : Ret Try.prog 107 #[v] w (fun v' w' => Below w.heap.size w w' ∧ Own w' w.heap.size 63 3 v' l.length (l.flatMap cellsI)) := by
 have hb := Below.refl w.heap.size w
 refine enter (N := 8) Try.func107 rfl rfl (by simp) fun a0 hN hd hA => ?_
 have s0 : a0.tmps.getD 0 undef = v := hA 0 (by simp)
 clear hA
 refine zF fun K16 hK16 => ?_
 refine zH ?_
 refine zD rfl ?_
 refine zB ?_
 refine hK16 _ _ (zF fun K17 hK17 => ?_)
 refine zF fun K18 hK18 => ?_
 refine zH ?_
 refine zG (zC hN rfl s0) ?_
 refine op_eql_nil slt22 (zA hN rfl) rfl hl (fun c4 => ?_) ?_
 ·
  refine zB ?_
  refine hK18 _ _ (wp_cond_true (zA hN rfl) (zF fun K19 hK19 => ?_))
  refine zH ?_
  refine zD rfl ?_
  refine zB ?_
  refine hK19 _ _ (wp_ret (zO ( ?_)))
  refine ret1 rfl hd (zA hN rfl) ⟨_, rfl, ?_⟩
  exact ⟨hb, by rw [List.length_eq_zero_iff.1 c4]; exact Own.nil _ _ _ _⟩
 refine zB ?_
 refine hK18 _ _ (wp_cond_false (zA hN rfl) (wp_skip (hK17 _ _ (zF fun K20 hK20 => ?_))))
 refine zH ?_
 refine op_bslice (e := 63) (pv := []) (cs := []) trivial zy ?_
 intro w21 b22 lo_b22 hi_b22 hB24 E23
 have := E23.size
 have hl := hl.keep0 E23
 have hb := zP hb E23 hb.size
 refine zG (zC hN rfl s0) ?_
 have hP30 := (Own.ofBx (base := w.heap.size) (sz := 3) (n := 0) hB24 rfl zz zx)
 refine op_append slt22 (zA hN rfl) hP30 (zA hN rfl) (Src.ofRd Try.underlying22 zz hl (one_pi _)) (by unfold maxLen; omega) zx hb.size ?_
 intro v25 w26 hO28 E27 hm29
 have := E27.size
 have hl := hl.keepO hP30 E27 zx
 have hb := below_stepO hb hP30 E27 hb.size zx
 have hO28 : Own w26 w.heap.size 63 3 v25 (0 + l.length) ((l).flatMap cellsI) := by simpa [u8v, u16v, sv, cellsI, cellsC, cellsX, cellsS] using hO28
 refine zD (zA hN rfl) ?_
 refine zB ?_
 refine hK20 _ _ (wp_ret ?_)
 refine ret1 rfl hd (zA hN rfl) ⟨_, rfl, ?_⟩
 exact ⟨hb, hO28.cast (by simp) (by simp)⟩

theorem twinsS {v : Value} {E : List XS} {w : World} (ih : ∀ a ∈ E, CopyS a) (hX : SsFr w 0 w.heap.size v E) : Ret Try.prog 110 #[v, (.func (.func 92) #[] #[])] w (fun v' w' => Below w.heap.size w w' ∧ ∃ E2 : List XS, SsFr w' w.heap.size w'.heap.size v' E2 ∧ SsSame E E2) := by
 have hR := hX.1
 have hlm := hX.3
 have hb := Below.refl w.heap.size w
 refine enter (N := 22) Try.func110 rfl rfl (by simp) fun a0 hN hd hA => ?_
 have s0 : a0.tmps.getD 0 undef = v := hA 0 (by simp)
 have s1 : a0.tmps.getD 1 undef = (.func (.func 92) #[] #[]) := hA 1 (by simp)
 clear hA
 refine zF fun K31 hK31 => ?_
 refine zH ?_
 refine zD rfl ?_
 refine zB ?_
 refine hK31 _ _ (zF fun K32 hK32 => ?_)
 refine zH ?_
 refine zD rfl ?_
 refine zB ?_
 refine hK32 _ _ (zF fun K33 hK33 => ?_)
 refine zF fun K34 hK34 => ?_
 refine zH ?_
 refine zG (zC hN rfl s0) ?_
 refine op_len_rd Try.underlying43 (zA hN rfl) hR ?_
 refine zG rfl ?_
 refine zB ?_
 refine hK34 _ _ (wp_block ?_)
 refine loop_m (fun mz_ az_ w' => ∃ (i : Nat) (lv2 : Value) (E2 : List XS) (F0S : Nat → Prop), mz_ = E.length - i ∧ (az_.tmps.getD 1 undef = (.func (.func 92) #[] #[])) ∧ (az_.tmps.getD 4 undef = (.slice none 0 0)) ∧ (az_.tmps.getD 8 undef = v) ∧ (az_.tmps.getD 9 undef = (.int .i64 ((E.length : Nat) : Int))) ∧ (az_.tmps.getD 10 undef = (.int .i64 ((i : Nat) : Int))) ∧ (az_.tmps.getD 5 undef = lv2) ∧ (i ≤ E.length) ∧ (E2.length = i) ∧ (∀ j, j < i → SSame (E.getD j default) (E2.getD j default)) ∧ (Dj (Bl lv2) F0S) ∧ (Below w.heap.size w w') ∧ (w.heap.size ≤ w'.heap.size) ∧ (SsFr w' 0 w.heap.size v E) ∧ (RdC w' 0 w.heap.size 13 v E.length (E.flatMap cellsS)) ∧ (SsIn w' w.heap.size E2 F0S) ∧ (Own w' w.heap.size 45 13 lv2 E2.length (E2.flatMap cellsS))) _ hN hd ⟨0, (.slice none 0 0), [], NoB, rfl, (zL hN rfl s1), (zU hN rfl), (zU hN rfl), (zU hN rfl), (zU hN rfl), (zU hN rfl), (Nat.zero_le _), rfl, (fun _ h => absurd h (Nat.not_lt_zero _)), (Dj.nil _).symm, hb, (Nat.le_refl _), hX, hR, (SsIn.nil _ _), (Own.nil _ _ _ _)⟩ ?_
 rintro _ a35 w35 hN35 hd35 ⟨i, lv2, E2, F0S, rfl, s35_1, s35_4, s35_8, s35_9, s35_10, s35_5, hi, hl2, hS, hdj, hb, zl_w35, hX, hR, hA, hO36⟩
 have := hb.size
 refine zF fun K37 hK37 => ?_
 refine zH ?_
 refine op_lss (zC hN35 rfl s35_10) (zC hN35 rfl s35_9) (fun c11 => ?_) (fun c11 => ?_)
 ·
  refine zB ?_
  refine hK37 _ _ (zF fun K38 hK38 => ?_)
  refine wp_cond_true (zA hN35 rfl) (wp_skip (hK38 _ _ (zF fun K39 hK39 => ?_)))
  refine wp_block ?_
  refine zF fun K40 hK40 => ?_
  refine zH ?_
  refine zh slt43 (zC hN35 rfl s35_8) hR (zC hN35 rfl s35_10) zx zx ?_
  intro b41 o42 h0b41 h1b41 hc43
  refine zX (cs := [(.int .i64 (E.getD i default).f.kind), (.string (bs (E.getD i default).f.tb)), (.string (bs (E.getD i default).f.nm)), (E.getD i default).f.cv, (E.getD i default).f.gv, (E.getD i default).f.vv, (E.getD i default).f.iv, (.string (bs (E.getD i default).f.join)), (E.getD i default).f.ov, (E.getD i default).f.wv, (E.getD i default).f.rv, (.bool (E.getD i default).f.desc), (E.getD i default).nv]) agg45 rfl (zA hN35 rfl) (fun j u hu => hc43 j u (by have := (List.getElem?_eq_some_iff.1 hu).1; simpa using this) ((el_xs (i := i) zx zx) j u hu)) ?_
  refine op_alloc (cs := [(.int .i64 0), (.string (bs [])), (.string (bs [])), (.slice none 0 0), (.slice none 0 0), (.slice none 0 0), (.slice none 0 0), (.string (bs [])), (.slice none 0 0), (.slice none 0 0), (.slice none 0 0), (.bool false), (.slice none 0 0)]) zero45 rfl ?_
  intro w44 b45 lo_b45 hi_b45 hB47 E46
  have dj48 : ¬ F0S b45 := fun hf => by have := (hA.lt _ hf).2; omega
  have ne_b45_lv2 : lv2.ownBlock ≠ some b45 := fun hh => by have := (hO36.lt _ hh).2; omega
  have := E46.size
  have hX := hX.keep0 E46
  have hR := hR.keep0 E46
  have hA := hA.keepG (zi E46 NoB) (fun _ _ h => h)
  have hO36 := hO36.keep0 E46
  have hb := zP hb E46 hb.size
  refine zZ size45 (zA hN35 rfl) (zA hN35 rfl) rfl (by simp only [List.all_cons, List.all_nil, Bool.true_and, Bool.and_true, (hX.2 (E.getD i default) (getD_mem zx)).ff.1.one, (hX.2 (E.getD i default) (getD_mem zx)).ff.2.1.one, (hX.2 (E.getD i default) (getD_mem zx)).ff.2.2.1.1.one, (hX.2 (E.getD i default) (getD_mem zx)).ff.2.2.2.1.one, (hX.2 (E.getD i default) (getD_mem zx)).ff.2.2.2.2.1.1.one, (hX.2 (E.getD i default) (getD_mem zx)).ff.2.2.2.2.2.1.1.one, (hX.2 (E.getD i default) (getD_mem zx)).ff.2.2.2.2.2.2.1.one, (hX.2 (E.getD i default) (getD_mem zx)).nvr.one]; try rfl) hB47 rfl ?_
  intro w51 hB47 E52
  have := E52.size
  have hX := hX.keep E52 sO
  have hR := hR.keep E52 sR
  have hA := hA.keepG (Gr.of E52) (Dj.one dj48)
  have hO36 := hO36.keep E52 (.inr ne_b45_lv2)
  have hb := below_step1 hb E52 hb.size zx
  refine zB ?_
  refine hK40 _ _ (zH ?_)
  refine zG (zC hN35 rfl s35_5) ?_
  refine zG (zC hN35 rfl s35_1) ?_
  refine zY agg45 rfl (zA hN35 rfl) hB47 ?_
  refine op_fnv (fs := []) (vs := [(.agg #[(.int .i64 (E.getD i default).f.kind), (.string (bs (E.getD i default).f.tb)), (.string (bs (E.getD i default).f.nm)), (E.getD i default).f.cv, (E.getD i default).f.gv, (E.getD i default).f.vv, (E.getD i default).f.iv, (.string (bs (E.getD i default).f.join)), (E.getD i default).f.ov, (E.getD i default).f.wv, (E.getD i default).f.rv, (.bool (E.getD i default).f.desc), (E.getD i default).nv])]) (cs := []) (zA hN35 rfl) ok92 ⟨(zA hN35 rfl), trivial⟩ (ih _ (getD_mem zx) ((hX.2 _ (getD_mem zx)).mono (Nat.zero_le _) zx)) ?_
  rintro _ w54 ⟨E55, a53, rfl, hx53, hq53⟩
  have lw_lv2 := fun k hk => (hO36.lt k hk).2
  have ap56 : ∀ k, lv2.ownBlock = some k → k < w51.heap.size ∨ w54.heap.size ≤ k := fun k hk => .inl (lw_lv2 k hk)
  have E55 := zQ E55
  have := E55.size
  have hX := hX.keep0 E55
  have hR := hR.keep0 E55
  have hA := hA.keepG (zi E55 NoB) (fun _ _ h => h)
  have hO36 := hO36.keep0 E55
  have hb := zP hb E55 hb.size
  refine op_bslice (e := 45) (pv := [(0, (.agg #[(.int .i64 a53.f.kind), (.string (bs a53.f.tb)), (.string (bs a53.f.nm)), a53.f.cv, a53.f.gv, a53.f.vv, a53.f.iv, (.string (bs a53.f.join)), a53.f.ov, a53.f.wv, a53.f.rv, (.bool a53.f.desc), a53.nv]))]) (cs := [(.int .i64 a53.f.kind), (.string (bs a53.f.tb)), (.string (bs a53.f.nm)), a53.f.cv, a53.f.gv, a53.f.vv, a53.f.iv, (.string (bs a53.f.join)), a53.f.ov, a53.f.wv, a53.f.rv, (.bool a53.f.desc), a53.nv]) ⟨rfl, (zA hN35 rfl), trivial⟩ zy ?_
  intro w57 b58 lo_b58 hi_b58 hB60 E59
  have := E59.size
  have hX := hX.keep0 E59
  have hR := hR.keep0 E59
  have hA := hA.keepG (zi E59 NoB) (fun _ _ h => h)
  have hO36 := hO36.keep0 E59
  have hx53 := hx53.keep0 E59
  have hb := zP hb E59 hb.size
  have hP67 := hO36
  refine op_append slt43 (zA hN35 rfl) hP67 (zA hN35 rfl) (Src.ofRd Try.underlying43 zz (RdC.ofBx (sz := 13) (n := 1) hB60 rfl zz) (by simp only [List.all_cons, List.all_nil, Bool.true_and, Bool.and_true, hx53.ff.1.one, hx53.ff.2.1.one, hx53.ff.2.2.1.1.one, hx53.ff.2.2.2.1.one, hx53.ff.2.2.2.2.1.1.one, hx53.ff.2.2.2.2.2.1.1.one, hx53.ff.2.2.2.2.2.2.1.one, hx53.nvr.one]; try rfl)) (by unfold maxLen; omega) zx hb.size ?_
  intro v62 w63 hO65 E64 hm66
  have dj68 : Dj F0S (Bl v62) := Dj.step hm66 (fun k hk => (hA.lt k hk).2) hdj.symm
  have := E64.size
  have hX := hX.keepO hP67 E64 zx
  have hR := hR.keepO hP67 E64 zx
  have hA := hA.keepG (Gr.of E64) hdj.symm
  have hx53 := hx53.keep E64 ap56
  have hb := below_stepO hb hP67 E64 hb.size zx
  have hO65 : Own w63 w.heap.size 45 13 v62 (E2.length + 1) ((E2.flatMap cellsS ++ [(.int .i64 a53.f.kind), (.string (bs a53.f.tb)), (.string (bs a53.f.nm)), a53.f.cv, a53.f.gv, a53.f.vv, a53.f.iv, (.string (bs a53.f.join)), a53.f.ov, a53.f.wv, a53.f.rv, (.bool a53.f.desc), a53.nv])) := by simpa [u8v, u16v, sv, cellsI, cellsC, cellsX, cellsS] using hO65
  refine zD (zA hN35 rfl) ?_
  refine zB ?_
  refine hK39 _ _ (zH ?_)
  refine op_add (zC hN35 rfl s35_10) rfl (add64 zx) ?_
  refine zG (zA hN35 rfl) ?_
  refine zB ?_
  -- round 11T
  exact zg _ hN35 hd35 ⟨(i + 1), v62, (E2 ++ [a53]), _, rfl, (zL hN35 rfl s35_1), (zL hN35 rfl s35_4), (zL hN35 rfl s35_8), (zL hN35 rfl s35_9), (zU hN35 rfl).trans (congrArg (Value.int .i64) zx), (zU hN35 rfl), zx, (by simp; omega), (same_next hl2 hS hq53), (dj_app dj68 hm66 lw_lv2 zx), hb, zx, hX, hR, (hA.snoc (a := a53) hx53 zx zx), (hO65.cast (by simp) (by simp [cellsX, cellsS]))⟩ zx
 refine zB ?_
 refine hK37 _ _ (zF fun K69 hK69 => ?_)
 refine wp_cond_false (zA hN35 rfl) (wp_exit (then_exit (then_exit (blk_hit ?_))))
 refine hK33 _ _ (zF fun K70 hK70 => ?_)
 refine zH ?_
 refine zG (zC hN35 rfl s35_5) ?_
 refine zD (zA hN35 rfl) ?_
 refine zB ?_
 refine hK70 _ _ (wp_ret ?_)
 refine ret1 rfl hd35 (zA hN35 rfl) ⟨_, rfl, ?_⟩
 obtain rfl : i = E.length := by omega
 exact ⟨hb, E2, hA.fr zx hO36, hl2.symm, hS⟩

theorem CopyS_in (s : XS) {w : World} (ih : ∀ a ∈ s.inner, CopyS a) (he : SFr w 0 w.heap.size s) : Ret Try.prog 92 #[(.agg #[(.int .i64 s.f.kind), (.string (bs s.f.tb)), (.string (bs s.f.nm)), s.f.cv, s.f.gv, s.f.vv, s.f.iv, (.string (bs s.f.join)), s.f.ov, s.f.wv, s.f.rv, (.bool s.f.desc), s.nv])] w (fun v' w' => Below w.heap.size w w' ∧ ∃ e2 : XS, v' = (.agg #[(.int .i64 e2.f.kind), (.string (bs e2.f.tb)), (.string (bs e2.f.nm)), e2.f.cv, e2.f.gv, e2.f.vv, e2.f.iv, (.string (bs e2.f.join)), e2.f.ov, e2.f.wv, e2.f.rv, (.bool e2.f.desc), e2.nv]) ∧ SFr w' w.heap.size w'.heap.size e2 ∧ SSame s e2) := by
 obtain ⟨hfc, hfg, hfv, hfi, hfo, hfw, hfr⟩ := he.ff
 have hfn := he.inn
 obtain ⟨⟨hs1, hs2, hs3⟩, hs4⟩ := he.sm
 have hb := Below.refl w.heap.size w
 refine enter (N := 36) Try.func92 rfl rfl (by simp) fun a0 hN hd hA => ?_
 have s0 : a0.tmps.getD 0 undef = (.agg #[(.int .i64 s.f.kind), (.string (bs s.f.tb)), (.string (bs s.f.nm)), s.f.cv, s.f.gv, s.f.vv, s.f.iv, (.string (bs s.f.join)), s.f.ov, s.f.wv, s.f.rv, (.bool s.f.desc), s.nv]) := hA 0 (by simp)
 clear hA
 refine zF fun K71 hK71 => ?_
 refine zH ?_
 refine op_box (cs := [(.int .i64 s.f.kind), (.string (bs s.f.tb)), (.string (bs s.f.nm)), s.f.cv, s.f.gv, s.f.vv, s.f.iv, (.string (bs s.f.join)), s.f.ov, s.f.wv, s.f.rv, (.bool s.f.desc), s.nv]) (zC hN rfl s0) rfl ?_
 intro w72 b73 lo_b73 hi_b73 hB75 E74
 have := E74.size
 have hfc := hfc.keep0 E74
 have hfg := hfg.keep0 E74
 have hfi := hfi.keep0 E74
 have hfv := hfv.keep0 E74
 have hfo := hfo.keep0 E74
 have hfw := hfw.keep0 E74
 have hfr := hfr.keep0 E74
 have hfn := hfn.keep0 E74
 have hb := zP hb E74 hb.size
 refine op_alloc (cs := [(.int .i64 0), (.string (bs [])), (.string (bs [])), (.slice none 0 0), (.slice none 0 0), (.slice none 0 0), (.slice none 0 0), (.string (bs [])), (.slice none 0 0), (.slice none 0 0), (.slice none 0 0), (.bool false), (.slice none 0 0)]) zero45 rfl ?_
 intro w76 b77 lo_b77 hi_b77 hB79 E78
 have := E78.size
 have hfc := hfc.keep0 E78
 have hfg := hfg.keep0 E78
 have hfi := hfi.keep0 E78
 have hfv := hfv.keep0 E78
 have hfo := hfo.keep0 E78
 have hfw := hfw.keep0 E78
 have hfr := hfr.keep0 E78
 have hfn := hfn.keep0 E78
 have hB75 := hB75.keep0 E78
 have hb := zP hb E78 hb.size
 refine zB ?_
 refine hK71 _ _ (zF fun K80 hK80 => ?_)
 refine reg_split (hd := [_, _, _, _, _, _, _, _, _, _, _]) (tl := _) 11 mixed zy rfl rfl ?_
 refine any_treek (φ := phiV [(fun uz => uz = (ptr b73 3)), (fun uz => uz = s.f.cv), (fun _ => True), (fun uz => uz = (ptr b73 4)), (fun uz => uz = s.f.gv), (fun _ => True), (fun uz => uz = (ptr b73 6)), (fun uz => uz = s.f.iv), (fun _ => True), (fun uz => uz = (ptr b73 3)), (fun _ => True)]) (G := fun t9 w' => 10 ∈ t9 → (Bx w' b73 45 [(.int .i64 s.f.kind), (.string (bs s.f.tb)), (.string (bs s.f.nm)), s.f.cv, s.f.gv, s.f.vv, s.f.iv, (.string (bs s.f.join)), s.f.ov, s.f.wv, s.f.rv, (.bool s.f.desc), s.nv])) [2, 5, 8, 10] zy zy zy zy zy hN (fun _ w1 w2 E h hc9 => (h hc9).keep0 E) (fun _ => hB75) (ObRk9.cons ?_ (ObRk9.cons ?_ (ObRk9.pass rfl (ObRk9.cons ?_ (ObRk9.cons ?_ (ObRk9.pass rfl (ObRk9.cons ?_ (ObRk9.cons ?_ (ObRk9.pass rfl (ObRk9.cons ?_ (ObRk9.pass rfl (ObRk9.nil)))))))))))) (by simp only [putsL_defers]) ?_
 ·
  intro eA tA aA wA hNA hckA hGA hbsA hdpA
  have qA_1 := (hbsA 1 rfl).trans (zU hN rfl)
  refine zM fld45_3 (zC hNA rfl qA_1) ?_
  exact obTk_end rfl rfl
 ·
  intro eA tA aA wA hNA hckA hGA hbsA hdpA
  have qA_3 : Sl aA 3 (ptr b73 3) := (hdpA 0 _ 3 zy rfl rfl).2 rfl
  have hGA := hGA (hckA 10 rfl zy)
  refine zN (v := s.f.cv) one41 (zC hNA rfl qA_3) (hGA.cell rfl) ?_
  exact obTk_end rfl rfl
 ·
  intro eA tA aA wA hNA hckA hGA hbsA hdpA
  have qA_1 := (hbsA 1 rfl).trans (zU hN rfl)
  refine zM fld45_4 (zC hNA rfl qA_1) ?_
  exact obTk_end rfl rfl
 ·
  intro eA tA aA wA hNA hckA hGA hbsA hdpA
  have qA_6 : Sl aA 6 (ptr b73 4) := (hdpA 3 _ 6 zy rfl rfl).2 rfl
  have hGA := hGA (hckA 10 rfl zy)
  refine zN (v := s.f.gv) one42 (zC hNA rfl qA_6) (hGA.cell rfl) ?_
  exact obTk_end rfl rfl
 ·
  intro eA tA aA wA hNA hckA hGA hbsA hdpA
  have qA_1 := (hbsA 1 rfl).trans (zU hN rfl)
  refine zM fld45_6 (zC hNA rfl qA_1) ?_
  exact obTk_end rfl rfl
 ·
  intro eA tA aA wA hNA hckA hGA hbsA hdpA
  have qA_9 : Sl aA 9 (ptr b73 6) := (hdpA 6 _ 9 zy rfl rfl).2 rfl
  have hGA := hGA (hckA 10 rfl zy)
  refine zN (v := s.f.iv) one22 (zC hNA rfl qA_9) (hGA.cell rfl) ?_
  exact obTk_end rfl rfl
 ·
  intro eA tA aA wA hNA hckA hGA hbsA hdpA
  have qA_1 := (hbsA 1 rfl).trans (zU hN rfl)
  refine zM fld45_3 (zC hNA rfl qA_1) ?_
  exact obTk_end rfl rfl
 refine ktk_step (rs := [2]) zy ?_
 refine one_mem ?_
 intro w82 E82 _ a82 hN82 hbs82 hdp82 o_ ho_; obtain rfl := zE ho_
 have := E82.size
 have hfc := hfc.keep0 E82
 have hfg := hfg.keep0 E82
 have hfi := hfi.keep0 E82
 have hfv := hfv.keep0 E82
 have hfo := hfo.keep0 E82
 have hfw := hfw.keep0 E82
 have hfr := hfr.keep0 E82
 have hfn := hfn.keep0 E82
 obtain ⟨hB75, hB79⟩ := kb2 E82 hB75 hB79
 have hb := zP hb E82 hb.size
 have q82_4 : Sl a82 4 s.f.cv := (hdp82 1 _ 4 zy rfl rfl).2 rfl
 refine zj ok89 (CloneC s.f.cols _ _ (by first | assumption | omega | (simp only [List.length_append, List.length_cons, List.length_nil, List.length_drop, List.length_take]; omega) | (dsimp only; omega) | decide | (simp [keyV, be8_len]; done)) (hfc.mono (Nat.zero_le _) zx)) ⟨(zC hN82 rfl q82_4), trivial⟩ ?_
 rintro v83 w84 ⟨E85, hO83⟩
 have E85 := zQ E85
 have := E85.size
 have hfg := hfg.keep0 E85
 have hfi := hfi.keep0 E85
 have hfv := hfv.keep0 E85
 have hfo := hfo.keep0 E85
 have hfw := hfw.keep0 E85
 have hfr := hfr.keep0 E85
 have hfn := hfn.keep0 E85
 obtain ⟨hB75, hB79⟩ := kb2 E85 hB75 hB79
 have hb := zP hb E85 hb.size
 have hO83 := hO83.mono (base' := w.heap.size) zx
 refine ktk_end (G := fun t9 w' => 10 ∈ t9 → (Bx w' b73 45 [(.int .i64 s.f.kind), (.string (bs s.f.tb)), (.string (bs s.f.nm)), s.f.cv, s.f.gv, s.f.vv, s.f.iv, (.string (bs s.f.join)), s.f.ov, s.f.wv, s.f.rv, (.bool s.f.desc), s.nv])) (todo := [2, 5, 8, 10]) (i := 2) rfl (fun _ => hB75) ?_
 refine ktk_step (rs := [5]) zy ?_
 refine one_mem ?_
 intro w87 E87 _ a87 hN87 hbs87 hdp87 o_ ho_; obtain rfl := zE ho_
 have := E87.size
 have hfg := hfg.keep0 E87
 have hfi := hfi.keep0 E87
 have hfv := hfv.keep0 E87
 have hfo := hfo.keep0 E87
 have hfw := hfw.keep0 E87
 have hfr := hfr.keep0 E87
 have hfn := hfn.keep0 E87
 have hO83 := hO83.keep0 E87
 obtain ⟨hB75, hB79⟩ := kb2 E87 hB75 hB79
 have hb := zP hb E87 hb.size
 have q87_7 : Sl a87 7 s.f.gv := (hdp87 4 _ 7 zy rfl rfl).2 rfl
 refine zj ok106 (CloneU s.f.tags _ _ (by first | assumption | omega | (simp only [List.length_append, List.length_cons, List.length_nil, List.length_drop, List.length_take]; omega) | (dsimp only; omega) | decide | (simp [keyV, be8_len]; done)) (hfg.mono (Nat.zero_le _) zx)) ⟨(zC hN87 rfl q87_7), trivial⟩ ?_
 rintro v88 w89 ⟨E90, hO88⟩
 have E90 := zQ E90
 have := E90.size
 have hfi := hfi.keep0 E90
 have hfv := hfv.keep0 E90
 have hfo := hfo.keep0 E90
 have hfw := hfw.keep0 E90
 have hfr := hfr.keep0 E90
 have hfn := hfn.keep0 E90
 have hO83 := hO83.keep0 E90
 obtain ⟨hB75, hB79⟩ := kb2 E90 hB75 hB79
 have hb := zP hb E90 hb.size
 have hO88 := hO88.mono (base' := w.heap.size) zx
 refine ktk_end (G := fun t9 w' => 10 ∈ t9 → (Bx w' b73 45 [(.int .i64 s.f.kind), (.string (bs s.f.tb)), (.string (bs s.f.nm)), s.f.cv, s.f.gv, s.f.vv, s.f.iv, (.string (bs s.f.join)), s.f.ov, s.f.wv, s.f.rv, (.bool s.f.desc), s.nv])) (todo := [5, 8, 10]) (i := 5) rfl (fun _ => hB75) ?_
 refine ktk_step (rs := [8]) zy ?_
 refine one_mem ?_
 intro w92 E92 _ a92 hN92 hbs92 hdp92 o_ ho_; obtain rfl := zE ho_
 have := E92.size
 have hfi := hfi.keep0 E92
 have hfv := hfv.keep0 E92
 have hfo := hfo.keep0 E92
 have hfw := hfw.keep0 E92
 have hfr := hfr.keep0 E92
 have hfn := hfn.keep0 E92
 have hO83 := hO83.keep0 E92
 have hO88 := hO88.keep0 E92
 obtain ⟨hB75, hB79⟩ := kb2 E92 hB75 hB79
 have hb := zP hb E92 hb.size
 have q92_10 : Sl a92 10 s.f.iv := (hdp92 7 _ 10 zy rfl rfl).2 rfl
 refine zj ok107 (CloneI s.f.items _ _ (by first | assumption | omega | (simp only [List.length_append, List.length_cons, List.length_nil, List.length_drop, List.length_take]; omega) | (dsimp only; omega) | decide | (simp [keyV, be8_len]; done)) (hfi.mono (Nat.zero_le _) zx)) ⟨(zC hN92 rfl q92_10), trivial⟩ ?_
 rintro v93 w94 ⟨E95, hO93⟩
 have E95 := zQ E95
 have := E95.size
 have hfv := hfv.keep0 E95
 have hfo := hfo.keep0 E95
 have hfw := hfw.keep0 E95
 have hfr := hfr.keep0 E95
 have hfn := hfn.keep0 E95
 have hO83 := hO83.keep0 E95
 have hO88 := hO88.keep0 E95
 obtain ⟨hB75, hB79⟩ := kb2 E95 hB75 hB79
 have hb := zP hb E95 hb.size
 have hO93 := hO93.mono (base' := w.heap.size) zx
 refine ktk_end (G := fun t9 w' => 10 ∈ t9 → (Bx w' b73 45 [(.int .i64 s.f.kind), (.string (bs s.f.tb)), (.string (bs s.f.nm)), s.f.cv, s.f.gv, s.f.vv, s.f.iv, (.string (bs s.f.join)), s.f.ov, s.f.wv, s.f.rv, (.bool s.f.desc), s.nv])) (todo := [8, 10]) (i := 8) rfl (fun _ => hB75) ?_
 refine ktk_step (rs := [10]) zy ?_
 refine one_mem ?_
 intro w97 E97 _ a97 hN97 hbs97 hdp97 o_ ho_; obtain rfl := zE ho_
 have := E97.size
 have hfv := hfv.keep0 E97
 have hfo := hfo.keep0 E97
 have hfw := hfw.keep0 E97
 have hfr := hfr.keep0 E97
 have hfn := hfn.keep0 E97
 have hO83 := hO83.keep0 E97
 have hO88 := hO88.keep0 E97
 have hO93 := hO93.keep0 E97
 obtain ⟨hB75, hB79⟩ := kb2 E97 hB75 hB79
 have hb := zP hb E97 hb.size
 have q97_12 : Sl a97 12 (ptr b73 3) := (hdp97 9 _ 12 zy rfl rfl).2 rfl
 have q97_5 : Sl a97 5 v83 := (zE ((hdp97 2 _ 5 zy rfl rfl).1 rfl)).symm
 have hB75_old := hB75
 refine za (vs := [v83]) (cs' := [(.int .i64 s.f.kind), (.string (bs s.f.tb)), (.string (bs s.f.nm)), v83, s.f.gv, s.f.vv, s.f.iv, (.string (bs s.f.join)), s.f.ov, s.f.wv, s.f.rv, (.bool s.f.desc), s.nv]) size41 (zC hN97 rfl q97_12) (zC hN97 rfl q97_5) hO83.cl rfl (by simp only [List.all_cons, List.all_nil, Bool.true_and, Bool.and_true, hO83.one]; try rfl) hB75 (zI rfl) rfl ?_
 intro w100 hB75 E101
 have := E101.size
 have hfv := hfv.keep E101 sO
 have hfo := hfo.keep E101 sO
 have hfw := hfw.keep E101 sO
 have hfr := hfr.keep E101 sO
 have hfn := hfn.keep E101 sO
 have hB79 := hB79.keep E101 sB
 have hO83 := hO83.keepX hB75_old E101 zz
 have hO88 := hO88.keepX hB75_old E101 zz
 have hO93 := hO93.keepX hB75_old E101 zz
 have hb := below_step1 hb E101 hb.size zx
 refine ktk_end0 (G := fun t9 w' => 10 ∈ t9 → (Bx w' b73 45 [(.int .i64 s.f.kind), (.string (bs s.f.tb)), (.string (bs s.f.nm)), s.f.cv, s.f.gv, s.f.vv, s.f.iv, (.string (bs s.f.join)), s.f.ov, s.f.wv, s.f.rv, (.bool s.f.desc), s.nv])) (todo := [10]) (i := 10) rfl (fun h => absurd h zz) ?_
 intro w102 E102 a102 hN102 hd102 hbs102 hph102
 have hd102 := hd102.trans ((by simp only [putsL_defers] : _ = _).trans hd)
 have := E102.size
 have hfv := hfv.keep0 E102
 have hfo := hfo.keep0 E102
 have hfw := hfw.keep0 E102
 have hfr := hfr.keep0 E102
 have hfn := hfn.keep0 E102
 have hO83 := hO83.keep0 E102
 have hO88 := hO88.keep0 E102
 have hO93 := hO93.keep0 E102
 obtain ⟨hB79, hB75⟩ := kb2 E102 hB79 hB75
 have hb := zP hb E102 hb.size
 have s102_1 := (hbs102 1 rfl).trans (zU hN rfl)
 have s102_2 := (hbs102 2 rfl).trans (zU hN rfl)
 have s102_8 : Sl a102 8 v88 := (zE ((hph102 5 _ 8 rfl rfl).1 rfl)).symm
 have s102_11 : Sl a102 11 v93 := (zE ((hph102 8 _ 11 rfl rfl).1 rfl)).symm
 refine split_end ?_
 refine from_seq (tl := [_, _, _, _]) zz zy rfl ?_
 refine zM fld45_4 (zC hN102 rfl s102_1) ?_
 have hB75_old := hB75
 refine za (vs := [v88]) (cs' := [(.int .i64 s.f.kind), (.string (bs s.f.tb)), (.string (bs s.f.nm)), v83, v88, s.f.vv, s.f.iv, (.string (bs s.f.join)), s.f.ov, s.f.wv, s.f.rv, (.bool s.f.desc), s.nv]) size42 (zA hN102 rfl) (zC hN102 rfl s102_8) hO88.cl rfl (by simp only [List.all_cons, List.all_nil, Bool.true_and, Bool.and_true, hO88.one]; try rfl) hB75 (zI rfl) rfl ?_
 intro w105 hB75 E106
 have := E106.size
 have hfv := hfv.keep E106 sO
 have hfo := hfo.keep E106 sO
 have hfw := hfw.keep E106 sO
 have hfr := hfr.keep E106 sO
 have hfn := hfn.keep E106 sO
 have hB79 := hB79.keep E106 sB
 have hO83 := hO83.keepX hB75_old E106 zz
 have hO88 := hO88.keepX hB75_old E106 zz
 have hO93 := hO93.keepX hB75_old E106 zz
 have hb := below_step1 hb E106 hb.size zx
 refine zM fld45_6 (zC hN102 rfl s102_1) ?_
 have hB75_old := hB75
 refine za (vs := [v93]) (cs' := [(.int .i64 s.f.kind), (.string (bs s.f.tb)), (.string (bs s.f.nm)), v83, v88, s.f.vv, v93, (.string (bs s.f.join)), s.f.ov, s.f.wv, s.f.rv, (.bool s.f.desc), s.nv]) size22 (zA hN102 rfl) (zC hN102 rfl s102_11) hO93.cl rfl (by simp only [List.all_cons, List.all_nil, Bool.true_and, Bool.and_true, hO93.one]; try rfl) hB75 (zI rfl) rfl ?_
 intro w109 hB75 E110
 have := E110.size
 have hfv := hfv.keep E110 sO
 have hfo := hfo.keep E110 sO
 have hfw := hfw.keep E110 sO
 have hfr := hfr.keep E110 sO
 have hfn := hfn.keep E110 sO
 have hB79 := hB79.keep E110 sB
 have hO83 := hO83.keepX hB75_old E110 zz
 have hO88 := hO88.keepX hB75_old E110 zz
 have hO93 := hO93.keepX hB75_old E110 zz
 have hb := below_step1 hb E110 hb.size zx
 refine zB ?_
 refine hK80 _ _ (zF fun K111 hK111 => ?_)
 refine reg_split (hd := [_, _, _, _, _, _, _, _]) (tl := _) 8 mixed zy rfl rfl ?_
 refine any_treek (φ := phiV [(fun uz => uz = (ptr b73 5)), (fun uz => uz = s.f.vv), (fun _ => True), (fun uz => uz = (ptr b73 8)), (fun uz => uz = s.f.ov), (fun _ => True), (fun uz => uz = (ptr b73 5)), (fun _ => True)]) (G := fun t9 w' => 7 ∈ t9 → (Bx w' b73 45 [(.int .i64 s.f.kind), (.string (bs s.f.tb)), (.string (bs s.f.nm)), v83, v88, s.f.vv, v93, (.string (bs s.f.join)), s.f.ov, s.f.wv, s.f.rv, (.bool s.f.desc), s.nv])) [2, 5, 7] zy zy zy zy zy hN102 (fun _ w1 w2 E h hc9 => (h hc9).keep0 E) (fun _ => hB75) (ObRk9.cons ?_ (ObRk9.cons ?_ (ObRk9.pass rfl (ObRk9.cons ?_ (ObRk9.cons ?_ (ObRk9.pass rfl (ObRk9.cons ?_ (ObRk9.pass rfl (ObRk9.nil))))))))) (by simp only [putsL_defers]) ?_
 ·
  intro eA tA aA wA hNA hckA hGA hbsA hdpA
  have qA_1 := (hbsA 1 rfl).trans (zL hN102 rfl s102_1)
  refine zM fld45_5 (zC hNA rfl qA_1) ?_
  exact obTk_end rfl rfl
 ·
  intro eA tA aA wA hNA hckA hGA hbsA hdpA
  have qA_15 : Sl aA 15 (ptr b73 5) := (hdpA 0 _ 15 zy rfl rfl).2 rfl
  have hGA := hGA (hckA 7 rfl zy)
  refine zN (v := s.f.vv) one26 (zC hNA rfl qA_15) (hGA.cell rfl) ?_
  exact obTk_end rfl rfl
 ·
  intro eA tA aA wA hNA hckA hGA hbsA hdpA
  have qA_1 := (hbsA 1 rfl).trans (zL hN102 rfl s102_1)
  refine zM fld45_8 (zC hNA rfl qA_1) ?_
  exact obTk_end rfl rfl
 ·
  intro eA tA aA wA hNA hckA hGA hbsA hdpA
  have qA_18 : Sl aA 18 (ptr b73 8) := (hdpA 3 _ 18 zy rfl rfl).2 rfl
  have hGA := hGA (hckA 7 rfl zy)
  refine zN (v := s.f.ov) one26 (zC hNA rfl qA_18) (hGA.cell rfl) ?_
  exact obTk_end rfl rfl
 ·
  intro eA tA aA wA hNA hckA hGA hbsA hdpA
  have qA_1 := (hbsA 1 rfl).trans (zL hN102 rfl s102_1)
  refine zM fld45_5 (zC hNA rfl qA_1) ?_
  exact obTk_end rfl rfl
 refine ktk_step (rs := [2]) zy ?_
 refine one_mem ?_
 intro w113 E113 _ a113 hN113 hbs113 hdp113 o_ ho_; obtain rfl := zE ho_
 have := E113.size
 have hfv := hfv.keep0 E113
 have hfo := hfo.keep0 E113
 have hfw := hfw.keep0 E113
 have hfr := hfr.keep0 E113
 have hfn := hfn.keep0 E113
 have hO83 := hO83.keep0 E113
 have hO88 := hO88.keep0 E113
 have hO93 := hO93.keep0 E113
 obtain ⟨hB79, hB75⟩ := kb2 E113 hB79 hB75
 have hb := zP hb E113 hb.size
 have q113_16 : Sl a113 16 s.f.vv := (hdp113 1 _ 16 zy rfl rfl).2 rfl
 refine zj ok108 (twinsX (fun a _ => CopyX_all a) (hfv.mono (Nat.zero_le _) zx)) ⟨(zC hN113 rfl q113_16), ⟨rfl, trivial⟩⟩ ?_
 rintro v114 w115 ⟨E116, E114x, hx114, hq114⟩
 have E116 := zQ E116
 have := E116.size
 have hfo := hfo.keep0 E116
 have hfw := hfw.keep0 E116
 have hfr := hfr.keep0 E116
 have hfn := hfn.keep0 E116
 have hO83 := hO83.keep0 E116
 have hO88 := hO88.keep0 E116
 have hO93 := hO93.keep0 E116
 obtain ⟨hB79, hB75⟩ := kb2 E116 hB79 hB75
 have hb := zP hb E116 hb.size
 refine ktk_end (G := fun t9 w' => 7 ∈ t9 → (Bx w' b73 45 [(.int .i64 s.f.kind), (.string (bs s.f.tb)), (.string (bs s.f.nm)), v83, v88, s.f.vv, v93, (.string (bs s.f.join)), s.f.ov, s.f.wv, s.f.rv, (.bool s.f.desc), s.nv])) (todo := [2, 5, 7]) (i := 2) rfl (fun _ => hB75) ?_
 refine ktk_step (rs := [5]) zy ?_
 refine one_mem ?_
 intro w118 E118 _ a118 hN118 hbs118 hdp118 o_ ho_; obtain rfl := zE ho_
 have := E118.size
 have hfo := hfo.keep0 E118
 have hfw := hfw.keep0 E118
 have hfr := hfr.keep0 E118
 have hfn := hfn.keep0 E118
 have hO83 := hO83.keep0 E118
 have hO88 := hO88.keep0 E118
 have hO93 := hO93.keep0 E118
 have hx114 := hx114.keep0 E118
 obtain ⟨hB79, hB75⟩ := kb2 E118 hB79 hB75
 have hb := zP hb E118 hb.size
 have q118_19 : Sl a118 19 s.f.ov := (hdp118 4 _ 19 zy rfl rfl).2 rfl
 refine zj ok108 (twinsX (fun a _ => CopyX_all a) (hfo.mono (Nat.zero_le _) zx)) ⟨(zC hN118 rfl q118_19), ⟨rfl, trivial⟩⟩ ?_
 rintro v119 w120 ⟨E121, E119x, hx119, hq119⟩
 have E121 := zQ E121
 have := E121.size
 have hfw := hfw.keep0 E121
 have hfr := hfr.keep0 E121
 have hfn := hfn.keep0 E121
 have hO83 := hO83.keep0 E121
 have hO88 := hO88.keep0 E121
 have hO93 := hO93.keep0 E121
 have hx114 := hx114.keep0 E121
 obtain ⟨hB79, hB75⟩ := kb2 E121 hB79 hB75
 have hb := zP hb E121 hb.size
 refine ktk_end (G := fun t9 w' => 7 ∈ t9 → (Bx w' b73 45 [(.int .i64 s.f.kind), (.string (bs s.f.tb)), (.string (bs s.f.nm)), v83, v88, s.f.vv, v93, (.string (bs s.f.join)), s.f.ov, s.f.wv, s.f.rv, (.bool s.f.desc), s.nv])) (todo := [5, 7]) (i := 5) rfl (fun _ => hB75) ?_
 refine ktk_step (rs := [7]) zy ?_
 refine one_mem ?_
 intro w123 E123 _ a123 hN123 hbs123 hdp123 o_ ho_; obtain rfl := zE ho_
 have := E123.size
 have hfw := hfw.keep0 E123
 have hfr := hfr.keep0 E123
 have hfn := hfn.keep0 E123
 have hO83 := hO83.keep0 E123
 have hO88 := hO88.keep0 E123
 have hO93 := hO93.keep0 E123
 have hx114 := hx114.keep0 E123
 have hx119 := hx119.keep0 E123
 obtain ⟨hB79, hB75⟩ := kb2 E123 hB79 hB75
 have hb := zP hb E123 hb.size
 have q123_21 : Sl a123 21 (ptr b73 5) := (hdp123 6 _ 21 zy rfl rfl).2 rfl
 have q123_17 : Sl a123 17 v114 := (zE ((hdp123 2 _ 17 zy rfl rfl).1 rfl)).symm
 have hB75_old := hB75
 refine za (vs := [v114]) (cs' := [(.int .i64 s.f.kind), (.string (bs s.f.tb)), (.string (bs s.f.nm)), v83, v88, v114, v93, (.string (bs s.f.join)), s.f.ov, s.f.wv, s.f.rv, (.bool s.f.desc), s.nv]) size26 (zC hN123 rfl q123_21) (zC hN123 rfl q123_17) hx114.1.cl rfl (by simp only [List.all_cons, List.all_nil, Bool.true_and, Bool.and_true, hx114.1.one]; try rfl) hB75 (zI rfl) rfl ?_
 intro w126 hB75 E127
 have := E127.size
 have hfw := hfw.keep E127 sO
 have hfr := hfr.keep E127 sO
 have hfn := hfn.keep E127 sO
 have hB79 := hB79.keep E127 sB
 have hO83 := hO83.keepX hB75_old E127 zz
 have hO88 := hO88.keepX hB75_old E127 zz
 have hO93 := hO93.keepX hB75_old E127 zz
 have hx114 := hx114.keep E127 sO
 have hx119 := hx119.keep E127 sO
 have hb := below_step1 hb E127 hb.size zx
 refine ktk_end0 (G := fun t9 w' => 7 ∈ t9 → (Bx w' b73 45 [(.int .i64 s.f.kind), (.string (bs s.f.tb)), (.string (bs s.f.nm)), v83, v88, s.f.vv, v93, (.string (bs s.f.join)), s.f.ov, s.f.wv, s.f.rv, (.bool s.f.desc), s.nv])) (todo := [7]) (i := 7) rfl (fun h => absurd h zz) ?_
 intro w128 E128 a128 hN128 hd128 hbs128 hph128
 have hd128 := hd128.trans ((by simp only [putsL_defers] : _ = _).trans hd102)
 have := E128.size
 have hfw := hfw.keep0 E128
 have hfr := hfr.keep0 E128
 have hfn := hfn.keep0 E128
 have hO83 := hO83.keep0 E128
 have hO88 := hO88.keep0 E128
 have hO93 := hO93.keep0 E128
 have hx114 := hx114.keep0 E128
 have hx119 := hx119.keep0 E128
 obtain ⟨hB79, hB75⟩ := kb2 E128 hB79 hB75
 have hb := zP hb E128 hb.size
 have s128_1 := (hbs128 1 rfl).trans (zL hN102 rfl s102_1)
 have s128_2 := (hbs128 2 rfl).trans (zL hN102 rfl s102_2)
 have s128_20 : Sl a128 20 v119 := (zE ((hph128 5 _ 20 rfl rfl).1 rfl)).symm
 refine split_end ?_
 refine from_seq (tl := [_, _]) zz zy rfl ?_
 refine zM fld45_8 (zC hN128 rfl s128_1) ?_
 have hB75_old := hB75
 refine za (vs := [v119]) (cs' := [(.int .i64 s.f.kind), (.string (bs s.f.tb)), (.string (bs s.f.nm)), v83, v88, v114, v93, (.string (bs s.f.join)), v119, s.f.wv, s.f.rv, (.bool s.f.desc), s.nv]) size26 (zA hN128 rfl) (zC hN128 rfl s128_20) hx119.1.cl rfl (by simp only [List.all_cons, List.all_nil, Bool.true_and, Bool.and_true, hx119.1.one]; try rfl) hB75 (zI rfl) rfl ?_
 intro w131 hB75 E132
 have := E132.size
 have hfw := hfw.keep E132 sO
 have hfr := hfr.keep E132 sO
 have hfn := hfn.keep E132 sO
 have hB79 := hB79.keep E132 sB
 have hO83 := hO83.keepX hB75_old E132 zz
 have hO88 := hO88.keepX hB75_old E132 zz
 have hO93 := hO93.keepX hB75_old E132 zz
 have hx114 := hx114.keep E132 sO
 have hx119 := hx119.keep E132 sO
 have hb := below_step1 hb E132 hb.size zx
 refine zB ?_
 refine hK111 _ _ (zF fun K133 hK133 => ?_)
 refine reg_split (hd := [_, _, _, _, _, _, _, _]) (tl := _) 8 mixed zy rfl rfl ?_
 refine any_treek (φ := phiV [(fun uz => uz = (ptr b73 9)), (fun uz => uz = s.f.wv), (fun _ => True), (fun uz => uz = (ptr b73 10)), (fun uz => uz = s.f.rv), (fun _ => True), (fun uz => uz = (ptr b73 9)), (fun _ => True)]) (G := fun t9 w' => 7 ∈ t9 → (Bx w' b73 45 [(.int .i64 s.f.kind), (.string (bs s.f.tb)), (.string (bs s.f.nm)), v83, v88, v114, v93, (.string (bs s.f.join)), v119, s.f.wv, s.f.rv, (.bool s.f.desc), s.nv])) [2, 5, 7] zy zy zy zy zy hN128 (fun _ w1 w2 E h hc9 => (h hc9).keep0 E) (fun _ => hB75) (ObRk9.cons ?_ (ObRk9.cons ?_ (ObRk9.pass rfl (ObRk9.cons ?_ (ObRk9.cons ?_ (ObRk9.pass rfl (ObRk9.cons ?_ (ObRk9.pass rfl (ObRk9.nil))))))))) (by simp only [putsL_defers]) ?_
 ·
  intro eA tA aA wA hNA hckA hGA hbsA hdpA
  have qA_1 := (hbsA 1 rfl).trans (zL hN128 rfl s128_1)
  refine zM fld45_9 (zC hNA rfl qA_1) ?_
  exact obTk_end rfl rfl
 ·
  intro eA tA aA wA hNA hckA hGA hbsA hdpA
  have qA_23 : Sl aA 23 (ptr b73 9) := (hdpA 0 _ 23 zy rfl rfl).2 rfl
  have hGA := hGA (hckA 7 rfl zy)
  refine zN (v := s.f.wv) one26 (zC hNA rfl qA_23) (hGA.cell rfl) ?_
  exact obTk_end rfl rfl
 ·
  intro eA tA aA wA hNA hckA hGA hbsA hdpA
  have qA_1 := (hbsA 1 rfl).trans (zL hN128 rfl s128_1)
  refine zM fld45_10 (zC hNA rfl qA_1) ?_
  exact obTk_end rfl rfl
 ·
  intro eA tA aA wA hNA hckA hGA hbsA hdpA
  have qA_26 : Sl aA 26 (ptr b73 10) := (hdpA 3 _ 26 zy rfl rfl).2 rfl
  have hGA := hGA (hckA 7 rfl zy)
  refine zN (v := s.f.rv) one26 (zC hNA rfl qA_26) (hGA.cell rfl) ?_
  exact obTk_end rfl rfl
 ·
  intro eA tA aA wA hNA hckA hGA hbsA hdpA
  have qA_1 := (hbsA 1 rfl).trans (zL hN128 rfl s128_1)
  refine zM fld45_9 (zC hNA rfl qA_1) ?_
  exact obTk_end rfl rfl
 refine ktk_step (rs := [2]) zy ?_
 refine one_mem ?_
 intro w135 E135 _ a135 hN135 hbs135 hdp135 o_ ho_; obtain rfl := zE ho_
 have := E135.size
 have hfw := hfw.keep0 E135
 have hfr := hfr.keep0 E135
 have hfn := hfn.keep0 E135
 have hO83 := hO83.keep0 E135
 have hO88 := hO88.keep0 E135
 have hO93 := hO93.keep0 E135
 have hx114 := hx114.keep0 E135
 have hx119 := hx119.keep0 E135
 obtain ⟨hB79, hB75⟩ := kb2 E135 hB79 hB75
 have hb := zP hb E135 hb.size
 have q135_24 : Sl a135 24 s.f.wv := (hdp135 1 _ 24 zy rfl rfl).2 rfl
 refine zj ok108 (twinsX (fun a _ => CopyX_all a) (hfw.mono (Nat.zero_le _) zx)) ⟨(zC hN135 rfl q135_24), ⟨rfl, trivial⟩⟩ ?_
 rintro v136 w137 ⟨E138, E136x, hx136, hq136⟩
 have E138 := zQ E138
 have := E138.size
 have hfr := hfr.keep0 E138
 have hfn := hfn.keep0 E138
 have hO83 := hO83.keep0 E138
 have hO88 := hO88.keep0 E138
 have hO93 := hO93.keep0 E138
 have hx114 := hx114.keep0 E138
 have hx119 := hx119.keep0 E138
 obtain ⟨hB79, hB75⟩ := kb2 E138 hB79 hB75
 have hb := zP hb E138 hb.size
 refine ktk_end (G := fun t9 w' => 7 ∈ t9 → (Bx w' b73 45 [(.int .i64 s.f.kind), (.string (bs s.f.tb)), (.string (bs s.f.nm)), v83, v88, v114, v93, (.string (bs s.f.join)), v119, s.f.wv, s.f.rv, (.bool s.f.desc), s.nv])) (todo := [2, 5, 7]) (i := 2) rfl (fun _ => hB75) ?_
 refine ktk_step (rs := [5]) zy ?_
 refine one_mem ?_
 intro w140 E140 _ a140 hN140 hbs140 hdp140 o_ ho_; obtain rfl := zE ho_
 have := E140.size
 have hfr := hfr.keep0 E140
 have hfn := hfn.keep0 E140
 have hO83 := hO83.keep0 E140
 have hO88 := hO88.keep0 E140
 have hO93 := hO93.keep0 E140
 have hx114 := hx114.keep0 E140
 have hx119 := hx119.keep0 E140
 have hx136 := hx136.keep0 E140
 obtain ⟨hB79, hB75⟩ := kb2 E140 hB79 hB75
 have hb := zP hb E140 hb.size
 have q140_27 : Sl a140 27 s.f.rv := (hdp140 4 _ 27 zy rfl rfl).2 rfl
 refine zj ok108 (twinsX (fun a _ => CopyX_all a) (hfr.mono (Nat.zero_le _) zx)) ⟨(zC hN140 rfl q140_27), ⟨rfl, trivial⟩⟩ ?_
 rintro v141 w142 ⟨E143, E141x, hx141, hq141⟩
 have E143 := zQ E143
 have := E143.size
 have hfn := hfn.keep0 E143
 have hO83 := hO83.keep0 E143
 have hO88 := hO88.keep0 E143
 have hO93 := hO93.keep0 E143
 have hx114 := hx114.keep0 E143
 have hx119 := hx119.keep0 E143
 have hx136 := hx136.keep0 E143
 obtain ⟨hB79, hB75⟩ := kb2 E143 hB79 hB75
 have hb := zP hb E143 hb.size
 refine ktk_end (G := fun t9 w' => 7 ∈ t9 → (Bx w' b73 45 [(.int .i64 s.f.kind), (.string (bs s.f.tb)), (.string (bs s.f.nm)), v83, v88, v114, v93, (.string (bs s.f.join)), v119, s.f.wv, s.f.rv, (.bool s.f.desc), s.nv])) (todo := [5, 7]) (i := 5) rfl (fun _ => hB75) ?_
 refine ktk_step (rs := [7]) zy ?_
 refine one_mem ?_
 intro w145 E145 _ a145 hN145 hbs145 hdp145 o_ ho_; obtain rfl := zE ho_
 have := E145.size
 have hfn := hfn.keep0 E145
 have hO83 := hO83.keep0 E145
 have hO88 := hO88.keep0 E145
 have hO93 := hO93.keep0 E145
 have hx114 := hx114.keep0 E145
 have hx119 := hx119.keep0 E145
 have hx136 := hx136.keep0 E145
 have hx141 := hx141.keep0 E145
 obtain ⟨hB79, hB75⟩ := kb2 E145 hB79 hB75
 have hb := zP hb E145 hb.size
 have q145_29 : Sl a145 29 (ptr b73 9) := (hdp145 6 _ 29 zy rfl rfl).2 rfl
 have q145_25 : Sl a145 25 v136 := (zE ((hdp145 2 _ 25 zy rfl rfl).1 rfl)).symm
 have hB75_old := hB75
 refine za (vs := [v136]) (cs' := [(.int .i64 s.f.kind), (.string (bs s.f.tb)), (.string (bs s.f.nm)), v83, v88, v114, v93, (.string (bs s.f.join)), v119, v136, s.f.rv, (.bool s.f.desc), s.nv]) size26 (zC hN145 rfl q145_29) (zC hN145 rfl q145_25) hx136.1.cl rfl (by simp only [List.all_cons, List.all_nil, Bool.true_and, Bool.and_true, hx136.1.one]; try rfl) hB75 (zI rfl) rfl ?_
 intro w148 hB75 E149
 have := E149.size
 have hfn := hfn.keep E149 sO
 have hB79 := hB79.keep E149 sB
 have hO83 := hO83.keepX hB75_old E149 zz
 have hO88 := hO88.keepX hB75_old E149 zz
 have hO93 := hO93.keepX hB75_old E149 zz
 have hx114 := hx114.keep E149 sO
 have hx119 := hx119.keep E149 sO
 have hx136 := hx136.keep E149 sO
 have hx141 := hx141.keep E149 sO
 have hb := below_step1 hb E149 hb.size zx
 refine ktk_end0 (G := fun t9 w' => 7 ∈ t9 → (Bx w' b73 45 [(.int .i64 s.f.kind), (.string (bs s.f.tb)), (.string (bs s.f.nm)), v83, v88, v114, v93, (.string (bs s.f.join)), v119, s.f.wv, s.f.rv, (.bool s.f.desc), s.nv])) (todo := [7]) (i := 7) rfl (fun h => absurd h zz) ?_
 intro w150 E150 a150 hN150 hd150 hbs150 hph150
 have hd150 := hd150.trans ((by simp only [putsL_defers] : _ = _).trans hd128)
 have := E150.size
 have hfn := hfn.keep0 E150
 have hO83 := hO83.keep0 E150
 have hO88 := hO88.keep0 E150
 have hO93 := hO93.keep0 E150
 have hx114 := hx114.keep0 E150
 have hx119 := hx119.keep0 E150
 have hx136 := hx136.keep0 E150
 have hx141 := hx141.keep0 E150
 obtain ⟨hB79, hB75⟩ := kb2 E150 hB79 hB75
 have hb := zP hb E150 hb.size
 have s150_1 := (hbs150 1 rfl).trans (zL hN128 rfl s128_1)
 have s150_2 := (hbs150 2 rfl).trans (zL hN128 rfl s128_2)
 have s150_28 : Sl a150 28 v141 := (zE ((hph150 5 _ 28 rfl rfl).1 rfl)).symm
 refine split_end ?_
 refine from_seq (tl := [_, _]) zz zy rfl ?_
 refine zM fld45_10 (zC hN150 rfl s150_1) ?_
 have hB75_old := hB75
 refine za (vs := [v141]) (cs' := [(.int .i64 s.f.kind), (.string (bs s.f.tb)), (.string (bs s.f.nm)), v83, v88, v114, v93, (.string (bs s.f.join)), v119, v136, v141, (.bool s.f.desc), s.nv]) size26 (zA hN150 rfl) (zC hN150 rfl s150_28) hx141.1.cl rfl (by simp only [List.all_cons, List.all_nil, Bool.true_and, Bool.and_true, hx141.1.one]; try rfl) hB75 (zI rfl) rfl ?_
 intro w153 hB75 E154
 have := E154.size
 have hfn := hfn.keep E154 sO
 have hB79 := hB79.keep E154 sB
 have hO83 := hO83.keepX hB75_old E154 zz
 have hO88 := hO88.keepX hB75_old E154 zz
 have hO93 := hO93.keepX hB75_old E154 zz
 have hx114 := hx114.keep E154 sO
 have hx119 := hx119.keep E154 sO
 have hx136 := hx136.keep E154 sO
 have hx141 := hx141.keep E154 sO
 have hb := below_step1 hb E154 hb.size zx
 refine zB ?_
 refine hK133 _ _ (zF fun K155 hK155 => ?_)
 refine zH ?_
 refine zM fld45_12 (zC hN150 rfl s150_1) ?_
 refine zN (v := s.nv) one43 (zA hN150 rfl) (hB75.cell rfl) ?_
 refine zj ok110 (twinsS ih (hfn.mono (Nat.zero_le _) zx)) ⟨(zA hN150 rfl), ⟨rfl, trivial⟩⟩ ?_
 rintro v156 w157 ⟨E158, E156x, hx156, hq156⟩
 have E158 := zQ E158
 have := E158.size
 have hO83 := hO83.keep0 E158
 have hO88 := hO88.keep0 E158
 have hO93 := hO93.keep0 E158
 have hx114 := hx114.keep0 E158
 have hx119 := hx119.keep0 E158
 have hx136 := hx136.keep0 E158
 have hx141 := hx141.keep0 E158
 obtain ⟨hB79, hB75⟩ := kb2 E158 hB79 hB75
 have hb := zP hb E158 hb.size
 refine zM fld45_12 (zC hN150 rfl s150_1) ?_
 have hB75_old := hB75
 refine za (vs := [v156]) (cs' := [(.int .i64 s.f.kind), (.string (bs s.f.tb)), (.string (bs s.f.nm)), v83, v88, v114, v93, (.string (bs s.f.join)), v119, v136, v141, (.bool s.f.desc), v156]) size43 (zA hN150 rfl) (zA hN150 rfl) hx156.rdc.cl rfl (by simp only [List.all_cons, List.all_nil, Bool.true_and, Bool.and_true, hx156.rdc.one]; try rfl) hB75 (zI rfl) rfl ?_
 intro w161 hB75 E162
 have := E162.size
 have hB79 := hB79.keep E162 sB
 have hO83 := hO83.keepX hB75_old E162 zz
 have hO88 := hO88.keepX hB75_old E162 zz
 have hO93 := hO93.keepX hB75_old E162 zz
 have hx114 := hx114.keep E162 sO
 have hx119 := hx119.keep E162 sO
 have hx136 := hx136.keep E162 sO
 have hx141 := hx141.keep E162 sO
 have hx156 := hx156.keep E162 sO
 have hb := below_step1 hb E162 hb.size zx
 refine zB ?_
 refine hK155 _ _ (zF fun K163 hK163 => ?_)
 refine zH ?_
 refine zY agg45 rfl (zC hN150 rfl s150_1) hB75 ?_
 have hB79_old := hB79
 refine zZ size45 (zC hN150 rfl s150_2) (zA hN150 rfl) rfl (by simp only [List.all_cons, List.all_nil, Bool.true_and, Bool.and_true, hO83.one, hO88.one, hx114.1.one, hO93.one, hx119.1.one, hx136.1.one, hx141.1.one, hx156.rdc.one]; try rfl) hB79 rfl ?_
 intro w166 hB79 E167
 have := E167.size
 have hO83 := hO83.keepX hB79_old E167 zz
 have hO88 := hO88.keepX hB79_old E167 zz
 have hO93 := hO93.keepX hB79_old E167 zz
 have hx114 := hx114.keep E167 sO
 have hx119 := hx119.keep E167 sO
 have hx136 := hx136.keep E167 sO
 have hx141 := hx141.keep E167 sO
 have hx156 := hx156.keep E167 sO
 have hb := below_step1 hb E167 hb.size zx
 refine zB ?_
 refine hK163 _ _ (wp_ret ?_)
 refine retC rfl hd150 (zC hN150 rfl s150_2) agg45 rfl hB79 ⟨_, rfl, ?_⟩
 exact ⟨hb, (XS.mk (StF.mk s.f.kind s.f.tb s.f.nm v83 s.f.cols v88 s.f.tags v114 E114x v93 s.f.items s.f.join v119 E119x v136 E136x v141 E141x s.f.desc) v156 E156x), rfl, .mk ⟨(hO83.rdw.mono zx zx), (hO88.rdw.mono zx zx), (hx114.mono zx zx), (hO93.rdw.mono zx zx), (hx119.mono zx zx), (hx136.mono zx zx), (hx141.mono zx zx)⟩ (hx156.mono zx zx).rdc (fun a ha => (hx156.mono zx zx).all a ha) ⟨⟨hs1, hs2, hs3⟩, hx156.small⟩, .mk ⟨rfl, rfl, rfl, rfl, rfl, hq114, rfl, rfl, hq119, hq136, hq141, rfl⟩ hq156.1 hq156.2⟩

theorem CopyS_all : ∀ s, CopyS s := XS.ind fun s ih _ he => CopyS_in s ih he
end Go.Proofs.Ythflnkfghogaoaa

namespace Go.Gx
def VFr (w : World) (L B : Nat) (d : DVw) : Prop := RdC w L B 1 d.sv d.strip.length (d.strip.map u16v) ∧ SFr w L B d.act ∧ d.strip.length ≤ 1000
structure VsFr (w : World) (L B : Nat) (v : Value) (V : List DVw) : Prop where
  rdc : RdC w L B 15 v V.length (V.flatMap cellsW)
  all : ∀ a ∈ V, VFr w L B a
  small : V.length ≤ 1000
def VSame (a b : DVw) : Prop := a.nm = b.nm ∧ a.strip = b.strip ∧ SSame a.act b.act
def VsIn (w : World) (base : Nat) (E : List DVw) (F : Nat → Prop) : Prop := AllIn VFr w base E F
section
variable {w w' : World} {base L B L' B' e sz n : Nat} {F G : Nat → Prop} {v u : Value} {V : List DVw} {d : DVw} {row : Option Nat} {ws : List Value}
theorem VFr.keep (h : VFr w L B d) (E : w.grownBy w' row) (hne : ∀ k, row = some k → k < L ∨ B ≤ k) : VFr w' L B d := ⟨h.1.keep E hne, h.2.1.keep E hne, h.2.2⟩
theorem VFr.keepG (h : VFr w L B d) (E : Gr w w' F) (hn : ∀ k, F k → k < L ∨ B ≤ k) : VFr w' L B d := ⟨h.1.keepG E hn, h.2.1.keepG E hn, h.2.2⟩
theorem VFr.mono (h : VFr w L B d) (hL : L' ≤ L) (hB : B ≤ B') : VFr w L' B' d := ⟨h.1.mono hL hB, h.2.1.mono hL hB, h.2.2⟩
theorem VsFr.keep (h : VsFr w L B v V) (E : w.grownBy w' row) (hne : ∀ k, row = some k → k < L ∨ B ≤ k) : VsFr w' L B v V := ⟨h.1.keep E hne, fun a ha => (h.2 a ha).keep E hne, h.3⟩
theorem VsFr.keep0 (h : VsFr w L B v V) (E : w.grownBy w' none) : VsFr w' L B v V := h.keep E (by simp)
theorem VsFr.keepG (h : VsFr w L B v V) (E : Gr w w' F) (hn : ∀ k, F k → k < L ∨ B ≤ k) : VsFr w' L B v V := ⟨h.1.keepG E hn, fun a ha => (h.2 a ha).keepG E hn, h.3⟩
theorem VsFr.keepO (h : VsFr w L B v V) (O : Own w base e sz u n ws) (E : w.grownBy w' u.ownBlock) (hne : B ≤ base) : VsFr w' L B v V := h.keep E fun k hk => .inr (Nat.le_trans hne (O.lt k hk).1)
theorem VsFr.mono (h : VsFr w L B v V) (hL : L' ≤ L) (hB : B ≤ B') : VsFr w L' B' v V := ⟨h.1.mono hL hB, fun a ha => (h.2 a ha).mono hL hB, h.3⟩
theorem VsFr.nil (w : World) (L B : Nat) : VsFr w L B (.slice none 0 0) [] := ⟨RdC.nil _ _ _ _, fun _ h => (by cases h), by simp⟩
theorem VsIn.lt (h : VsIn w base V F) : ∀ k, F k → base ≤ k ∧ k < w.heap.size := h.2
theorem VsIn.keepG (h : VsIn w base V F) (E2 : Gr w w' G) (hd : Dj F G) : VsIn w' base V F := AllIn.keepG h (fun _ _ _ h1 h2 => h1.keepG E2 h2) E2.size hd
theorem VsIn.nil (w : World) (base : Nat) : VsIn w base [] NoB := AllIn.nil w base
theorem VsIn.snoc (h : VsIn w base V F) (ha : VFr w L B d) (hL : base ≤ L) (hB : B ≤ w.heap.size) : VsIn w base (V ++ [d]) (fun k => F k ∨ (L ≤ k ∧ k < B)) := AllIn.snoc h ha hL hB
theorem VsIn.mono (h : VsIn w base V F) (hb : L ≤ base) : VsIn w L V F := ⟨fun a ha => by obtain ⟨L2, B, h1, h2, h3, h4⟩ := h.1 a ha; exact ⟨L2, B, h1, by omega, h3, h4⟩, fun k hk => ⟨by have := (h.2 k hk).1; omega, (h.2 k hk).2⟩⟩
theorem VsIn.fr (h : VsIn w base V F) (hn : V.length ≤ 1000) (O : Own w base 98 15 v V.length (V.flatMap cellsW)) : VsFr w base w.heap.size v V :=
  ⟨O.rdw, fun a ha => by obtain ⟨L, B, h1, h2, h3, _⟩ := h.1 a ha; exact h1.mono h2 h3, hn⟩
end
end Go.Gx

namespace Go.Proofs.Ythflnkfghogaoaa
open Go.Gx Go.RowKit
attribute [local irreducible] wpList wpStill Code.wp Calls

end Go.Proofs.Ythflnkfghogaoaa

namespace Go.Gx
theorem at_pre9 {pre mid suf : List Value} {j : Nat} {u : Value} (h : mid[j]? = some u) : (pre ++ mid ++ suf)[pre.length + j]? = some u := by
  have hj := (List.getElem?_eq_some_iff.1 h).1
  rw [List.append_assoc, List.getElem?_append_right (by omega), Nat.add_sub_cancel_left, List.getElem?_append_left hj]; exact h
end Go.Gx
