/- What a create comes to. -/
import Derived.Test.YthflnkfghogaoaaGreatB2
set_option linter.unusedVariables false
set_option linter.unusedSimpArgs false

namespace Go.Proofs.YthflnkfghogaoaaGreat
open Go.Gx
def SzT (T : List PTab) : Prop := T.length ≤ 1000 ∧ ∀ t ∈ T, t.cols.length ≤ 1000 ∧ t.idx.length ≤ 1000
theorem SzT.d {D : List DTab} (h : SzT (D.map DTab.t)) : D.length ≤ 1000000 ∧ ∀ d ∈ D, d.t.cols.length ≤ 1000000 ∧ d.t.idx.length ≤ 1000000 :=
  ⟨by have := h.1; rw [List.length_map] at this; omega, fun d hd => by have := h.2 d.t (List.mem_map.2 ⟨d, hd, rfl⟩); omega⟩
theorem sz_of {D D2 : List DTab} (h : D2.map DTab.t = D.map DTab.t) (hD : D.length ≤ 1000000) (hsz : ∀ d ∈ D, d.t.cols.length ≤ 1000000 ∧ d.t.idx.length ≤ 1000000) : D2.length ≤ 1000000 ∧ ∀ d ∈ D2, d.t.cols.length ≤ 1000000 ∧ d.t.idx.length ≤ 1000000 := by
  refine ⟨by have := congrArg List.length h; simp at this; omega, fun d hd => ?_⟩
  have : d.t ∈ D.map DTab.t := by rw [← h]; exact List.mem_map.2 ⟨d, hd, rfl⟩
  obtain ⟨d0, h0, h1⟩ := List.mem_map.1 this
  rw [← h1]; exact hsz d0 h0
theorem TabsR.fr {w : World} {base : Nat} {D : List DTab} {F : Nat → Prop} {v : Value} (h : TabsR w base D F) (O : Own w base 51 3 v D.length (D.flatMap cellsT)) : TsFr w base w.heap.size v D := ⟨O.rdw, fun d hd => ⟨(h.1 d hd).1.rdw, (h.1 d hd).2.rdw⟩⟩
def idxT : List PTab → List UInt8 → List UInt8 → List PTab
  | [], _, _ => []
  | t :: T, tb, nm => if t.nm = tb then { t with idx := t.idx ++ [nm] } :: T else t :: idxT T tb nm
def addE (T : List PTab) (N : List (List UInt8)) (o : Lb) (s : XS) : Int :=
  if s.f.kind = 1 then tabE T s.f.nm s.f.cols else if s.f.kind = 2 then idxE T s.f.tb s.f.nm else if s.f.kind = 3 then viewE N o s [6] else if s.f.kind = 4 then viewE N o s [5, 7, 8] else 1
def addT (T : List PTab) (s : XS) : List PTab := if s.f.kind = 1 then T ++ [⟨s.f.nm, s.f.cols, []⟩] else if s.f.kind = 2 then idxT T s.f.tb s.f.nm else T
def AddV (V V' : List DVw) (s : XS) : Prop := if s.f.kind = 3 ∨ s.f.kind = 4 then ∃ W d, V' = W ++ [d] ∧ W.length = V.length ∧ (∀ i, i < V.length → VSame (V.getD i default) (W.getD i default)) ∧ NewV s d else V'.length = V.length ∧ ∀ i, i < V.length → VSame (V.getD i default) (V'.getD i default)
theorem addE_1 {T : List PTab} {N : List (List UInt8)} {o : Lb} {s : XS} (h : s.f.kind = 1) : addE T N o s = tabE T s.f.nm s.f.cols := if_pos h
theorem addE_2 {T : List PTab} {N : List (List UInt8)} {o : Lb} {s : XS} (h : s.f.kind = 2) : addE T N o s = idxE T s.f.tb s.f.nm := by unfold addE; rw [if_neg (by omega), if_pos h]
theorem addE_3 {T : List PTab} {N : List (List UInt8)} {o : Lb} {s : XS} (h : s.f.kind = 3) : addE T N o s = viewE N o s [6] := by unfold addE; rw [if_neg (by omega), if_neg (by omega), if_pos h]
theorem addE_4 {T : List PTab} {N : List (List UInt8)} {o : Lb} {s : XS} (h : s.f.kind = 4) : addE T N o s = viewE N o s [5, 7, 8] := by unfold addE; rw [if_neg (by omega), if_neg (by omega), if_neg (by omega), if_pos h]
theorem addE_5 {T : List PTab} {N : List (List UInt8)} {o : Lb} {s : XS} (h : s.f.kind ≠ 1 ∧ s.f.kind ≠ 2 ∧ s.f.kind ≠ 3 ∧ s.f.kind ≠ 4) : addE T N o s = 1 := by unfold addE; rw [if_neg h.1, if_neg h.2.1, if_neg h.2.2.1, if_neg h.2.2.2]
theorem addT_1 {T : List PTab} {s : XS} (h : s.f.kind = 1) : addT T s = T ++ [⟨s.f.nm, s.f.cols, []⟩] := if_pos h
theorem addT_v {T : List PTab} {s : XS} (h : s.f.kind ≠ 1 ∧ s.f.kind ≠ 2) : addT T s = T := by unfold addT; rw [if_neg h.1, if_neg h.2]
theorem AddV.n {V V' : List DVw} {s : XS} (h : s.f.kind ≠ 3 ∧ s.f.kind ≠ 4) (hl : V'.length = V.length) (hs : ∀ i, i < V.length → VSame (V.getD i default) (V'.getD i default)) : AddV V V' s := by unfold AddV; rw [if_neg (by omega)]; exact ⟨hl, hs⟩
theorem AddV.v {V W : List DVw} {s : XS} {d : DVw} (h : s.f.kind = 3 ∨ s.f.kind = 4) (hl : W.length = V.length) (hs : ∀ i, i < V.length → VSame (V.getD i default) (W.getD i default)) (hd : NewV s d) : AddV V (W ++ [d]) s := by unfold AddV; rw [if_pos h]; exact ⟨W, d, rfl, hl, hs, hd⟩
theorem names_same {V W : List DVw} (hl : W.length = V.length) (hs : ∀ i, i < V.length → VSame (V.getD i default) (W.getD i default)) : W.map DVw.nm = V.map DVw.nm := by
  refine List.ext_getElem (by simp [hl]) fun i h1 h2 => ?_
  have hv : i < V.length := by simpa using h2
  have := (hs i hv).1
  simp only [List.getElem_map]
  simp [List.getD_eq_getElem?_getD, hv, show i < W.length by omega] at this
  exact this.symm
end Go.Proofs.YthflnkfghogaoaaGreat

namespace Go.Proofs.YthflnkfghogaoaaGreat
open Go.Gx
def PwI (D : List DTab) : Prop := ∀ i j, i < j → j < D.length → Dj (Bl (D.getD i default).iv) (Bl (D.getD j default).iv)
theorem pw_nil : PwI [] := fun _ _ _ h => absurd h (Nat.not_lt_zero _)
theorem pw_snoc {w : World} {base : Nat} {D : List DTab} {F : Nat → Prop} {d : DTab} (S : TabsR w base D F) (hd : Dj F (Bl d.iv)) (h : PwI D) : PwI (D ++ [d]) := fun i j hij hj => by
  rw [List.length_append, List.length_singleton] at hj
  rw [getD_old (show i < D.length by omega)]
  by_cases hjl : j < D.length
  · rw [getD_old hjl]; exact h i j hij hjl
  · rw [getD_snoc (show j = D.length by omega)]
    exact fun x hx => hd x ((S.2 x).2 ⟨_, getD_mem (show i < D.length by omega), .inr hx⟩)
def TabsK (w : World) (base : Nat) (D : List DTab) (k : Nat) (F : Nat → Prop) : Prop :=
  (∀ j, j < D.length → Own w base 48 3 (D.getD j default).cv (D.getD j default).t.cols.length ((D.getD j default).t.cols.flatMap cellsC)) ∧ (∀ j, j < D.length → j ≠ k → Own w base 9 1 (D.getD j default).iv (D.getD j default).t.idx.length ((D.getD j default).t.idx.map sv)) ∧
    ∀ x, F x ↔ ∃ j, j < D.length ∧ (Bl (D.getD j default).cv x ∨ (j ≠ k ∧ Bl (D.getD j default).iv x))
section
variable {w w' : World} {base k b t e sz n : Nat} {D : List DTab} {F G : Nat → Prop} {v : Value} {cs : List Value}
theorem TabsK.lt (h : TabsK w base D k F) : ∀ x, F x → base ≤ x ∧ x < w.heap.size := fun x hx => by
  obtain ⟨j, hj, hx⟩ := (h.2.2 x).1 hx
  rcases hx with hx | ⟨hk, hx⟩
  · exact (h.1 j hj).lt x hx
  · exact (h.2.1 j hj hk).lt x hx
theorem TabsK.keepG (h : TabsK w base D k F) (E : Gr w w' G) (hd : Dj F G) : TabsK w' base D k F :=
  ⟨fun j hj => (h.1 j hj).keepG E fun x hx => hd x ((h.2.2 x).2 ⟨j, hj, .inl hx⟩), fun j hj hk => (h.2.1 j hj hk).keepG E fun x hx => hd x ((h.2.2 x).2 ⟨j, hj, .inr ⟨hk, hx⟩⟩), h.2.2⟩
theorem TabsK.kz (h : TabsK w base D k F) (E9 : w.grownBy w' none) : TabsK w' base D k F := h.keepG (Gr.of0 E9 NoB) (fun _ _ h => h)
theorem TabsK.notBx (h : TabsK w base D k F) (B : Bx w b t cs) (h1 : t ≠ 48) (h2 : t ≠ 9) : ¬ F b := fun hf => by
  obtain ⟨j, hj, hf⟩ := (h.2.2 b).1 hf
  rcases hf with hf | ⟨hk, hf⟩
  · exact (h.1 j hj).neB B h1 hf
  · exact (h.2.1 j hj hk).neB B h2 hf
theorem TabsK.notOwn {base2 : Nat} (h : TabsK w base D k F) (O : Own w base2 e sz v n cs) (h1 : e ≠ 48) (h2 : e ≠ 9) : Dj (Bl v) F := fun x hx hf => by
  obtain ⟨j, hj, hf⟩ := (h.2.2 x).1 hf
  rcases hf with hf | ⟨hk, hf⟩
  · exact O.notOwn (h.1 j hj) h1 x hx hf
  · exact O.notOwn (h.2.1 j hj hk) h2 x hx hf
theorem TabsR.splitK (S : TabsR w base D F) (hk : k < D.length) (hp : PwI D) : ∃ G, TabsK w base D k G ∧ Dj (Bl (D.getD k default).iv) G ∧ (∀ x, G x → F x) ∧ ∀ x, Bl (D.getD k default).iv x → F x := by
  refine ⟨fun x => ∃ j, j < D.length ∧ (Bl (D.getD j default).cv x ∨ (j ≠ k ∧ Bl (D.getD j default).iv x)), ⟨fun j hj => (S.1 _ (getD_mem hj)).1, fun j hj _ => (S.1 _ (getD_mem hj)).2, fun _ => Iff.rfl⟩, fun x hx hg => ?_, fun x hx => ?_, fun x hx => (S.2 x).2 ⟨_, getD_mem hk, .inr hx⟩⟩
  · obtain ⟨j, hj, hg⟩ := hg
    rcases hg with hg | ⟨hjk, hg⟩
    · exact (S.1 _ (getD_mem hk)).2.notOwn (S.1 _ (getD_mem hj)).1 (by decide) x hx hg
    · rcases Nat.lt_or_gt_of_ne hjk with h | h
      · exact hp j k h hk x hg hx
      · exact hp k j h hj x hx hg
  · obtain ⟨j, hj, hg⟩ := hx
    exact (S.2 x).2 ⟨_, getD_mem hj, hg.imp id fun q => q.2⟩
theorem getD_set {α : Type} [Inhabited α] {l : List α} {k j : Nat} {x : α} (hk : k < l.length) : (l.set k x).getD j default = if j = k then x else l.getD j default := by
  simp only [List.getD_eq_getElem?_getD, List.getElem?_set]
  by_cases h : k = j
  · subst h; simp [hk]
  · rw [if_neg h, if_neg (fun e => h e.symm)]
theorem TabsK.join {d : DTab} (h : TabsK w base D k F) (hk : k < D.length) (h1 : d.cv = (D.getD k default).cv) (h2 : d.t.cols = (D.getD k default).t.cols) (O : Own w base 9 1 d.iv d.t.idx.length (d.t.idx.map sv)) : ∃ F', TabsR w base (D.set k d) F' := by
  refine ⟨fun x => ∃ d' ∈ D.set k d, Bl d'.cv x ∨ Bl d'.iv x, fun d' hd' => ?_, fun _ => Iff.rfl⟩
  obtain ⟨j, hj, rfl⟩ := List.mem_iff_getElem.1 hd'
  have hj2 : j < D.length := by rw [List.length_set] at hj; exact hj
  have e : (D.set k d)[j]'hj = (D.set k d).getD j default := by simp [List.getD_eq_getElem?_getD, hj2]
  rw [e, getD_set hk]
  by_cases hjk : j = k
  · rw [if_pos hjk, h1, h2]; subst hjk; exact ⟨h.1 j hj2, O⟩
  · rw [if_neg hjk]; exact ⟨h.1 j hj2, h.2.1 j hj2 hjk⟩
end
theorem flat_setT : ∀ (D : List DTab) (k : Nat) (d : DTab) (iv : Value), k < D.length → d.t.nm = (D.getD k default).t.nm → d.cv = (D.getD k default).cv → d.iv = iv →
    (D.flatMap cellsT).take (k * 3 + 2) ++ [iv] ++ (D.flatMap cellsT).drop (k * 3 + 2 + 1) = (D.set k d).flatMap cellsT
  | [], _, _, _, h, _, _, _ => absurd h (Nat.not_lt_zero _)
  | a :: D, 0, d, iv, _, h1, h2, h3 => by
    simp only [List.getD_cons_zero] at h1 h2
    simp [cellsT, h1, h2, h3]
  | a :: D, k + 1, d, iv, h, h1, h2, h3 => by
    have ih := flat_setT D k d iv (by simpa using h) (by simpa using h1) (by simpa using h2) h3
    rw [List.set_cons_succ, List.flatMap_cons, List.flatMap_cons, ← ih]
    have e : (k + 1) * 3 + 2 = (k * 3 + 2) + 3 := by omega
    rw [e, List.take_append, List.drop_append]
    simp [cellsT, List.append_assoc]
theorem idxT_set : ∀ (D : List DTab) (k : Nat) (d : DTab) (tb nm : List UInt8), (∀ j, j < k → ¬ (D.getD j default).t.nm = tb) → k < D.length → (D.getD k default).t.nm = tb → d.t = { (D.getD k default).t with idx := (D.getD k default).t.idx ++ [nm] } → (D.set k d).map DTab.t = idxT (D.map DTab.t) tb nm
  | [], _, _, _, _, _, h, _, _ => absurd h (Nat.not_lt_zero _)
  | a :: D, 0, d, tb, nm, _, _, h1, h2 => by
    simp only [List.getD_cons_zero] at h1 h2
    simp [idxT, h1, h2]
  | a :: D, k + 1, d, tb, nm, hf, h, h1, h2 => by
    have h0 := hf 0 (Nat.succ_pos _)
    simp only [List.getD_cons_zero] at h0
    have ih := idxT_set D k d tb nm (fun j hj => by have := hf (j + 1) (by omega); simpa using this) (by simpa using h) (by simpa using h1) (by simpa using h2)
    rw [List.set_cons_succ, List.map_cons, List.map_cons, ih]
    simp [idxT, h0]
theorem ix_first {D : List DTab} {tb : List UInt8} {k : Nat} (h : ixOf (fun d : DTab => decide (d.t.nm = tb)) D = k) : ∀ j, j < k → ¬ (D.getD j default).t.nm = tb := fun j hj he => by
  unfold ixOf at h
  cases hf : D.findIdx? (fun d : DTab => decide (d.t.nm = tb)) with
  | none => rw [hf] at h; exact absurd h (by simp)
  | some i =>
    rw [hf] at h
    have hi : i = k := Int.ofNat.inj h
    rw [List.findIdx?_eq_some_iff_getElem] at hf
    obtain ⟨hl, _, hn⟩ := hf
    have := hn j (by omega)
    simp [List.getD_eq_getElem?_getD, show j < D.length by omega] at he
    simp [he] at this
theorem addT_2 {T : List PTab} {s : XS} (h : s.f.kind = 2) : addT T s = idxT T s.f.tb s.f.nm := by unfold addT; rw [if_neg (by omega), if_pos h]
theorem idxE_1 {T : List PTab} {tb nm : List UInt8} (h : tabAt T tb = none) : idxE T tb nm = 9 := by unfold idxE; rw [h]
theorem idxE_2 {T : List PTab} {tb nm : List UInt8} {t : PTab} (h : tabAt T tb = some t) : idxE T tb nm = if colIx t.cols nm < 0 then 10 else if colIx t.cols nm = 0 ∨ nm ∈ t.idx then 12 else 0 := by unfold idxE; rw [h]
end Go.Proofs.YthflnkfghogaoaaGreat

namespace Go.Proofs.YthflnkfghogaoaaGreat
open Go.Gx Go.RowKit
attribute [local irreducible] wpList wpStill Code.wp Calls

theorem CloneL (l : List (UInt16)) (v : Value) (w : World) (hz : l.length ≤ 1000000000) (hl : RdC w 0 w.heap.size 1 v l.length (l.map u16v)) : Ret Tryz.prog 50 #[v] w (fun v' w' => Below w.heap.size w w' ∧ Own w' w.heap.size 56 1 v' l.length (l.map u16v)) := by
 have hb := Below.refl w.heap.size w
 refine enter (N := 8) Tryz.func50 rfl rfl (by simp) fun a hN hd hA => ?_
 have b : a.tmps.getD 0 undef = v := hA 0 (by simp)
 clear hA
 refine zF fun _ a => zH (zD rfl (zB (a _ _ (zF fun _ a => zF fun _ c => zH (zG (zC hN rfl b) ?_)))))
 have hl' := hl.keep0 (zQ hb)
 refine op_eql_nil slt24 (zA hN rfl) rfl hl' (fun g => ?_) ?_
 ·
  refine zB (c _ _ (wp_cond_true (zA hN rfl) (zF fun _ c => zH (zD rfl (zB (c _ _ (wp_ret (zO ( (ret1 rfl hd (zA hN rfl) ⟨_, rfl, ?_⟩))))))))))
  exact ⟨hb, by rw [List.length_eq_zero_iff.1 g]; exact Own.nil _ _ _ _⟩
 refine zB (c _ _ (wp_cond_false (zA hN rfl) (wp_skip (a _ _ (zF fun _ a => zH (op_bslice (e := 56) (pv := []) (cs := []) trivial zy ?_))))))
 intro m h j k c g
 obtain ⟨hb, _⟩ := yE hb g
 refine zG (zC hN rfl b) ?_
 have b := (Own.ofBx (base := w.heap.size) (sz := 1) (n := 0) c rfl zz zx)
 have hl' := hl.keep0 (zQ hb)
 refine op_append slt24 (zA hN rfl) b (zA hN rfl) (Src.ofRd Tryz.underlying24 zz hl' (one_u16 _)) (by unfold maxLen; omega) zx hb.size ?_
 intro j h c g k
 have := g.size
 have hb := below_stepO hb b g hb.size zx
 have c : Own h w.heap.size 56 1 j (0 + l.length) ((l).map u16v) := by simpa [u8v, u16v, sv, cellsI, cellsC, cellsX, cellsS] using c
 refine zD (zA hN rfl) (zB (a _ _ (wp_ret (ret1 rfl hd (zA hN rfl) ⟨_, rfl, ?_⟩))))
 exact ⟨hb, c.cast (by simp) (by simp)⟩

set_option maxHeartbeats 1000000 in
theorem twin_ret {tv vv : Value} {D : List DTab} {V : List DVw} {w : World} (hT : TsRd w w.heap.size tv D) (hD : D.length ≤ 1000000) (hsz : ∀ d ∈ D, d.t.cols.length ≤ 1000000 ∧ d.t.idx.length ≤ 1000000) (hV : VsFr w 0 w.heap.size vv V) : Ret Tryz.prog 22 #[(.agg #[tv, vv])] w (fun v' w' => Below w.heap.size w w' ∧ ∃ (tv' vv' : Value) (D' : List DTab) (V' : List DVw) (F' FV : Nat → Prop), v' = .agg #[tv', vv'] ∧ Own w' w.heap.size 51 3 tv' D'.length (D'.flatMap cellsT) ∧ TabsR w' w.heap.size D' F' ∧ D'.map DTab.t = D.map DTab.t ∧ Own w' w.heap.size 68 15 vv' V'.length (V'.flatMap cellsW) ∧ VsIn w' w.heap.size V' FV ∧ Dj (Bl vv') FV ∧ Dj (Bl tv') FV ∧ Dj F' FV ∧ PwI D' ∧ V'.length = V.length ∧ ∀ i, i < V.length → VSame (V.getD i default) (V'.getD i default)) := by
 have hR := hT.1
 have hVR := hV.1
 have hVz := hV.3
 have hb := Below.refl w.heap.size w
 refine enter (N := 53) Tryz.func22 rfl rfl (by simp) fun a hN hd hA => ?_
 have b : a.tmps.getD 0 undef = (.agg #[tv, vv]) := hA 0 (by simp)
 clear hA
 refine zF fun _ a => zH (op_box (cs := [tv, vv]) (zC hN rfl b) rfl ?_)
 intro l c m o b g
 obtain ⟨hb, _⟩ := yE hb g
 refine op_alloc (cs := [(.slice none 0 0), (.slice none 0 0)]) zero30 rfl ?_
 intro o l r p g m
 obtain ⟨hb, _⟩ := yE hb m
 refine zB (a _ _ (zF fun _ a => zH (op_alloc (cs := [(.slice none 0 0), (.slice none 0 0)]) zero30 rfl ?_)))
 intro r o t x s p
 obtain ⟨hb, _⟩ := yE hb p
 have b := (b.keep0 m).keep0 p
 have g := g.keep0 p
 refine zB (a _ _ (zF fun _ a => zF fun _ m => zH (zM fld30_0 (zA hN rfl) (zN one27 (zA hN rfl) (b.cell rfl) ?_))))
 have hR' := hR.keep0 (zQ hb)
 refine op_len_rd Tryz.underlying27 (zA hN rfl) hR' (zG rfl (zB (m _ _ (wp_block (loop_m (fun mz_ az_ w' => ∃ (i : Nat) (lv : Value) (D2 : List DTab) (F0S : Nat → Prop), mz_ = D.length - i ∧ (Sl az_ 1 (ptr c 0)) ∧ (Sl az_ 2 (ptr l 0)) ∧ (Sl az_ 3 (ptr o 0)) ∧ (Sl az_ 9 tv) ∧ (Sl az_ 10 (.int .i64 ((D.length : Nat) : Int))) ∧ (Sl az_ 11 (.int .i64 ((i : Nat) : Int))) ∧ (i ≤ D.length) ∧ (D2.length = i) ∧ (D2.map DTab.t = (D.take i).map DTab.t) ∧ (PwI D2) ∧ (Below w.heap.size w w') ∧ (r.heap.size ≤ w'.heap.size) ∧ (Bx w' c 30 [tv, vv]) ∧ (Bx w' l 30 [(.slice none 0 0), (.slice none 0 0)]) ∧ (Bx w' o 30 [lv, (.slice none 0 0)]) ∧ (TabsR w' w.heap.size D2 F0S) ∧ (Own w' w.heap.size 51 3 lv D2.length (D2.flatMap cellsT))) _ hN hd ⟨0, (.slice none 0 0), [], NoB, rfl, (zU hN rfl), (zU hN rfl), (zU hN rfl), (zU hN rfl), (zU hN rfl), (zU hN rfl), (Nat.zero_le _), rfl, rfl, pw_nil, hb, (Nat.le_refl _), b, g, s, (TabsR.nil _ _), (Own.nil _ _ _ _)⟩ ?_)))))
 rintro _ J F p z ⟨i, lv, D2, F0S, rfl, x, A, y, t, C, s, hi, I, hM, hPw, hb, H, b, g, hxt, hS, r⟩
 have := hb.size
 refine zF fun _ m => zH (op_lss (zC p rfl s) (zC p rfl C) (fun H => ?_) (fun H => ?_))
 ·
  refine zB (m _ _ (zF fun _ m => wp_cond_true (zA p rfl) (wp_skip (m _ _ (zF fun _ m => wp_block (zF fun _ H => zH ?_))))))
  have hR' := hR.keep0 (zQ hb)
  refine zh slt27 (zC p rfl t) hR' (zC p rfl s) zx zx ?_
  intro O J K M I
  refine zX (cs := [(.string (bs (D.getD i default).t.nm)), (D.getD i default).cv, (D.getD i default).iv]) agg51 rfl (zA p rfl) (fun j u hu => I j u (by have := (List.getElem?_eq_some_iff.1 hu).1; simpa using this) ((el_dt (i := i) zx zx) j u hu)) (op_alloc (cs := [(.string (bs [])), (.slice none 0 0), (.slice none 0 0)]) zero51 rfl ?_)
  intro P J O M I K
  have M : ¬ F0S J := fun hf => by have := (hS.lt _ hf).2; omega
  have O : lv.ownBlock ≠ some J := fun hh => by have := (r.lt _ hh).2; omega
  obtain ⟨hb, _⟩ := yE hb K
  have hxt := hxt.keep0 K
  obtain ⟨b, g⟩ := kb2 K b g
  have P := I
  have hT' := hT.keep0 (zQ hb)
  refine zZ size51 (zA p rfl) (zA p rfl) rfl (by simp only [yA, yB, yC, yD, (hT'.2 (D.getD i default) (getD_mem zx)).1.one, (hT'.2 (D.getD i default) (getD_mem zx)).2.one]; try rfl) I rfl ?_
  intro R I Q
  have := Q.size
  have b := b.keep Q (sN b P)
  have g := g.keep Q (sN g P)
  have hxt := hxt.keep Q (sN hxt P)
  have hS := (hS.kz K).keepG (Gr.of Q) (Dj.one M)
  have r := (r.keep0 K).keep Q (.inr O)
  have hb := below_step1 hb Q hb.size zx
  refine zB (H _ _ (zF fun _ H => ?_))
  have hT' := hT.keep0 (zQ hb)
  have hti := hT'.2 (D.getD i default) (getD_mem zx)
  have htl := hsz (D.getD i default) (getD_mem zx)
  have htc := hti.1
  have htx := hti.2
  refine reg_split (hd := [_, _, _, _, _, _, _, _]) (tl := _) 8 mixed zy rfl rfl (any_treek (φ := phiV [(fun uz => uz = (ptr J 1)), (fun uz => uz = (D.getD i default).cv), (fun _ => True), (fun uz => uz = (ptr J 2)), (fun uz => uz = (D.getD i default).iv), (fun _ => True), (fun uz => uz = (ptr J 1)), (fun _ => True)]) (G := fun K w' => 7 ∈ K → (Bx w' J 51 [(.string (bs (D.getD i default).t.nm)), (D.getD i default).cv, (D.getD i default).iv])) [2, 5, 7] zy zy zy zy zy p (fun _ R S E h Q => (h Q).keep0 E) (fun _ => I) (ObRk9.cons ?_ (ObRk9.cons ?_ (ObRk9.pass rfl (ObRk9.cons ?_ (ObRk9.cons ?_ (ObRk9.pass rfl (ObRk9.cons ?_ (ObRk9.pass rfl (ObRk9.nil))))))))) (by simp only [putsL_defers]) ?_)
  ·
   intro eA tA aA wA hNA hckA hGA hbsA hdpA
   have T := (hbsA 5 rfl).trans (zU p rfl)
   refine zM fld51_1 (zC hNA rfl T) ?_
   exact obTk_end rfl rfl
  ·
   intro eA tA aA wA hNA hckA hGA hbsA hdpA
   have U : Sl aA 15 (ptr J 1) := (hdpA 0 _ 15 zy rfl rfl).2 rfl
   have hGA := hGA (hckA 7 rfl zy)
   refine zN one32 (zC hNA rfl U) (hGA.cell rfl) ?_
   exact obTk_end rfl rfl
  ·
   intro eA tA aA wA hNA hckA hGA hbsA hdpA
   have T := (hbsA 5 rfl).trans (zU p rfl)
   refine zM fld51_2 (zC hNA rfl T) ?_
   exact obTk_end rfl rfl
  ·
   intro eA tA aA wA hNA hckA hGA hbsA hdpA
   have U : Sl aA 18 (ptr J 2) := (hdpA 3 _ 18 zy rfl rfl).2 rfl
   have hGA := hGA (hckA 7 rfl zy)
   refine zN one49 (zC hNA rfl U) (hGA.cell rfl) ?_
   exact obTk_end rfl rfl
  ·
   intro eA tA aA wA hNA hckA hGA hbsA hdpA
   have T := (hbsA 5 rfl).trans (zU p rfl)
   refine zM fld51_1 (zC hNA rfl T) ?_
   exact obTk_end rfl rfl
  refine ktk_step (rs := [2]) zy (one_mem ?_)
  intro Z T _ X U Y W o_ ho_; obtain rfl := zE ho_
  obtain ⟨hb, _⟩ := yE hb T
  have hS := hS.kz T
  have htc := htc.keep0 T
  have Y : Sl X 16 (D.getD i default).cv := (W 1 _ 16 zy rfl rfl).2 rfl
  refine zj ok48 (CloneC ((D.getD i default).t.cols) _ _ (by first | assumption | omega | (simp only [List.length_append, List.length_cons, List.length_nil, List.length_drop, List.length_take]; omega) | (dsimp only; omega) | decide | (simp [keyV, be8_len]; done)) (htc.mono (Nat.zero_le _) zx)) ⟨(zC U rfl Y), trivial⟩ ?_
  rintro W Y ⟨X, U⟩
  have X := zQ X
  obtain ⟨hb, _⟩ := yE hb X
  have hS := hS.kz X
  have I := (I.keep0 T).keep0 X
  have U := U.mono (base' := w.heap.size) zx
  refine ktk_end (G := fun K w' => 7 ∈ K → (Bx w' J 51 [(.string (bs (D.getD i default).t.nm)), (D.getD i default).cv, (D.getD i default).iv])) (todo := [2, 5, 7]) (i := 2) rfl (fun _ => I) (ktk_step (rs := [5]) zy (one_mem ?_))
  intro ac Y _ Z aa ad ab o_ ho_; obtain rfl := zE ho_
  obtain ⟨hb, _⟩ := yE hb Y
  have hS := hS.kz Y
  have htx := ((htx.keep0 T).keep0 X).keep0 Y
  have ac : Sl Z 19 (D.getD i default).iv := (ab 4 _ 19 zy rfl rfl).2 rfl
  refine zj ok49 (CloneS ((D.getD i default).t.idx) _ _ (by first | assumption | omega | (simp only [List.length_append, List.length_cons, List.length_nil, List.length_drop, List.length_take]; omega) | (dsimp only; omega) | decide | (simp [keyV, be8_len]; done)) (htx.mono (Nat.zero_le _) zx)) ⟨(zC aa rfl ac), trivial⟩ ?_
  rintro ab ac ⟨aa, Z⟩
  have ac : Dj F0S (Bl ab) := Dj.fresh (fun k hk => (hS.lt k hk).2) (fun k hk => (Z.lt k hk).1)
  have aa := zQ aa
  obtain ⟨hb, _⟩ := yE hb aa
  have hS := hS.kz aa
  have I := (I.keep0 Y).keep0 aa
  have Z := Z.mono (base' := w.heap.size) zx
  refine ktk_end (G := fun K w' => 7 ∈ K → (Bx w' J 51 [(.string (bs (D.getD i default).t.nm)), (D.getD i default).cv, (D.getD i default).iv])) (todo := [5, 7]) (i := 5) rfl (fun _ => I) (ktk_step (rs := [7]) zy (one_mem ?_))
  intro ai ad _ ag ae ah af o_ ho_; obtain rfl := zE ho_
  obtain ⟨hb, _⟩ := yE hb ad
  have b := ((((b.keep0 T).keep0 X).keep0 Y).keep0 aa).keep0 ad
  have g := ((((g.keep0 T).keep0 X).keep0 Y).keep0 aa).keep0 ad
  have hxt := ((((hxt.keep0 T).keep0 X).keep0 Y).keep0 aa).keep0 ad
  have I := I.keep0 ad
  have U := ((U.keep0 Y).keep0 aa).keep0 ad
  have ah : Sl ag 21 (ptr J 1) := (af 6 _ 21 zy rfl rfl).2 rfl
  have ai : Sl ag 17 W := (zE ((af 2 _ 17 zy rfl rfl).1 rfl)).symm
  have P := I
  refine za (vs := [W]) (cs' := [(.string (bs (D.getD i default).t.nm)), W, (D.getD i default).iv]) size32 (zC ae rfl ah) (zC ae rfl ai) U.cl rfl (by simp only [yA, yB, yC, yD, U.one]; try rfl) I (zI rfl) rfl ?_
  intro af I ae
  have := ae.size
  have b := b.keep ae (sN b P)
  have g := g.keep ae (sN g P)
  have hxt := hxt.keep ae (sN hxt P)
  have hS := (hS.kz ad).keepG (Gr.of ae) (Dj.one M)
  have hb := below_step1 hb ae hb.size zx
  refine ktk_end0 (G := fun K w' => 7 ∈ K → (Bx w' J 51 [(.string (bs (D.getD i default).t.nm)), (D.getD i default).cv, (D.getD i default).iv])) (todo := [7]) (i := 7) rfl (fun h => absurd h zz) ?_
  intro ak af ai J ah ag aj
  have ah := ah.trans ((by simp only [putsL_defers] : _ = _).trans z)
  obtain ⟨hb, _⟩ := yE hb af
  have hxt := hxt.keep0 af
  obtain ⟨b, g⟩ := kb2 af b g
  have U := (U.keepX P ae zz).keep0 af
  have Z := ((Z.keep0 ad).keepX P ae zz).keep0 af
  have I := I.keep0 af
  have ak := (ag 1 rfl).trans (zL p rfl x)
  have al := (ag 2 rfl).trans (zL p rfl A)
  have am := (ag 3 rfl).trans (zL p rfl y)
  have an := (ag 5 rfl).trans (zU p rfl)
  have ao := (ag 9 rfl).trans (zL p rfl t)
  have t := (ag 10 rfl).trans (zL p rfl C)
  have C := (ag 11 rfl).trans (zL p rfl s)
  have s : Sl ai 20 ab := (zE ((aj 5 _ 20 rfl rfl).1 rfl)).symm
  refine split_end (from_seq (tl := [_, _]) zz zy rfl (zM fld51_2 (zC J rfl an) ?_))
  have P := I
  refine za (vs := [ab]) (cs' := [(.string (bs (D.getD i default).t.nm)), W, ab]) size49 (zA J rfl) (zC J rfl s) Z.cl rfl (by simp only [yA, yB, yC, yD, Z.one]; try rfl) I (zI rfl) rfl ?_
  intro ag I s
  have := s.size
  have b := b.keep s (sN b P)
  have g := g.keep s (sN g P)
  have hxt := hxt.keep s (sN hxt P)
  have hS := (hS.kz af).keepG (Gr.of s) (Dj.one M)
  have U := U.keepX P s zz
  have Z := Z.keepX P s zz
  have hb := below_step1 hb s hb.size zx
  refine zB (H _ _ (zH (zM fld30_0 (zC J rfl am) (zN one27 (zA J rfl) (hxt.cell rfl) (zY agg51 rfl (zC J rfl an) I (op_bslice (e := 51) (pv := [(0, (.agg #[(.string (bs (D.getD i default).t.nm)), W, ab]))]) (cs := [(.string (bs (D.getD i default).t.nm)), W, ab]) ⟨rfl, (zA J rfl), trivial⟩ (by obtain ⟨_, _, _, rfl⟩ := U.sl; obtain ⟨_, _, _, rfl⟩ := Z.sl; kernel_rfl) ?_))))))
  intro ai ag aj P M I
  obtain ⟨hb, _⟩ := yE hb I
  have hS := hS.kz I
  have r := ((((((((r.keep0 T).keep0 X).keep0 Y).keep0 aa).keep0 ad).keep ae (.inr O)).keep0 af).keep s (.inr O)).keep0 I
  have U := U.keep0 I
  have Z := Z.keep0 I
  have s := r
  refine op_append slt27 (zA J rfl) s (zA J rfl) (Src.ofRd Tryz.underlying27 zz (RdC.ofBx (sz := 3) (n := 1) M rfl zz) (by simp only [yA, yB, yC, yD, U.one, Z.one]; try rfl)) (by unfold maxLen; omega) zx hb.size ?_
  intro P T O M X
  have := M.size
  have hxt := (hxt.keep0 I).keepO s M zz
  have hS := hS.keepG (Gr.of M) (hS.notOwn s zz zz).symm
  have hb := below_stepO hb s M hb.size zx
  have O : Own T w.heap.size 51 3 P (D2 ++ [(DTab.mk (D.getD i default).t W ab)]).length (((D2 ++ [(DTab.mk (D.getD i default).t W ab)])).flatMap cellsT) := by exact O.cast (by simp) (by simp [cellsT])
  refine zM fld30_0 (zC J rfl am) ?_
  have hxt_old := hxt
  refine za (vs := [P]) (cs' := [P, (.slice none 0 0)]) size27 (zA J rfl) (zA J rfl) O.cl rfl (by simp only [yA, yB, yC, yD, O.one]; try rfl) hxt (zI rfl) rfl ?_
  intro X hxt T
  have := T.size
  have b := ((b.keep0 I).keepO s M zz).keep T sB
  have g := ((g.keep0 I).keepO s M zz).keep T sB
  have hS := hS.keepG (Gr.of T) (Dj.one (hS.notBx hxt_old zz zz))
  have U := (U.keepT s M zz).keepX hxt_old T zz
  have Z := (Z.keepT s M zz).keepX hxt_old T zz
  have O := O.keepX hxt_old T zz
  have hb := below_step1 hb T hb.size zx
  refine zB (m _ _ (zH (op_add (zC J rfl C) rfl (add64 zx) (zG (zA J rfl) (zB ?_)))))
  -- round 12T
  exact zg _ J ah ⟨(i + 1), P, (D2 ++ [(DTab.mk (D.getD i default).t W ab)]), _, rfl, (zL J rfl ak), (zL J rfl al), (zL J rfl am), (zL J rfl ao), (zL J rfl t), (zU J rfl).trans (congrArg (Value.int .i64) zx), zx, (by simp; omega), (by rw [List.map_append, hM, take_map_snoc _ zx]; rfl), (pw_snoc hS ac hPw), hb, zx, b, g, hxt, (hS.snoc (d := (DTab.mk (D.getD i default).t W ab)) U Z), (O.cast (by simp) rfl)⟩ zx
 refine zB (m _ _ (zF fun _ m => wp_cond_false (zA p rfl) (wp_exit (then_exit (then_exit (blk_hit (a _ _ (zF fun _ a => zF fun _ m => zH (zM fld30_1 (zC p rfl x) (zN one28 (zA p rfl) (b.cell rfl) ?_))))))))))
 have hVR' := hVR.keep0 (zQ hb)
 refine op_len_rd Tryz.underlying28 (zA p rfl) hVR' (zG rfl (zB (m _ _ (wp_block (loop_m (fun mz_ az_ w' => ∃ (i : Nat) (t : Value) (s : List DVw) (FV : Nat → Prop), mz_ = V.length - i ∧ (Sl az_ 2 (ptr l 0)) ∧ (Sl az_ 3 (ptr o 0)) ∧ (Sl az_ 31 vv) ∧ (Sl az_ 32 (.int .i64 ((V.length : Nat) : Int))) ∧ (Sl az_ 33 (.int .i64 ((i : Nat) : Int))) ∧ (i ≤ V.length) ∧ (s.length = i) ∧ (∀ j, j < i → VSame (V.getD j default) (s.getD j default)) ∧ (Dj F0S FV) ∧ (Dj (Bl lv) FV) ∧ (¬ FV o) ∧ (¬ FV l) ∧ (Dj (Bl t) FV) ∧ (Below w.heap.size w w') ∧ (F.heap.size ≤ w'.heap.size) ∧ (Bx w' c 30 [tv, vv]) ∧ (Bx w' l 30 [(.slice none 0 0), (.slice none 0 0)]) ∧ (TabsR w' w.heap.size D2 F0S) ∧ (Own w' w.heap.size 51 3 lv D2.length (D2.flatMap cellsT)) ∧ (Bx w' o 30 [lv, t]) ∧ (VsIn w' w.heap.size s FV) ∧ (Own w' w.heap.size 68 15 t s.length (s.flatMap cellsW))) _ p z ⟨0, (.slice none 0 0), [], NoB, rfl, (zL p rfl A), (zL p rfl y), (zU p rfl), (zU p rfl), (zU p rfl), (Nat.zero_le _), rfl, (fun _ h => absurd h (Nat.not_lt_zero _)), (fun _ _ h => h.elim), (fun _ _ h => h.elim), (fun h => h.elim), (fun h => h.elim), (Dj.nil _).symm, hb, (Nat.le_refl _), b, g, hS, r, hxt, (VsIn.nil _ _), (Own.nil _ _ _ _)⟩ ?_)))))
 rintro _ M J c A ⟨i, t, s, FV, rfl, o, z, C, y, p, hi, hlV, hVS, hdjF, hdjT, x, F, hdjV, hb, I, b, g, hS, r, hxv, hVI, l⟩
 have := hb.size
 refine zF fun _ m => zH (op_lss (zC c rfl p) (zC c rfl y) (fun I => ?_) (fun I => ?_))
 ·
  refine zB (m _ _ (zF fun _ m => wp_cond_true (zA c rfl) (wp_skip (m _ _ (zF fun _ m => wp_block (zF fun _ H => zH ?_))))))
  have hVR' := hVR.keep0 (zQ hb)
  refine zh slt28 (zC c rfl C) hVR' (zC c rfl p) zx zx ?_
  intro P O J M I
  refine zX (cs := [(.string (bs (V.getD i default).nm)), (V.getD i default).sv, (.int .i64 (V.getD i default).act.f.kind), (.string (bs (V.getD i default).act.f.tb)), (.string (bs (V.getD i default).act.f.nm)), (V.getD i default).act.f.cv, (V.getD i default).act.f.gv, (V.getD i default).act.f.vv, (V.getD i default).act.f.iv, (.string (bs (V.getD i default).act.f.join)), (V.getD i default).act.f.ov, (V.getD i default).act.f.wv, (V.getD i default).act.f.rv, (.bool (V.getD i default).act.f.desc), (V.getD i default).act.nv]) agg68 rfl (zA c rfl) (fun j u hu => I j u (by have := (List.getElem?_eq_some_iff.1 hu).1; simpa using this) ((el_dv (i := i) zx zx) j u hu)) (op_alloc (cs := [(.string (bs [])), (.slice none 0 0), (.int .i64 0), (.string (bs [])), (.string (bs [])), (.slice none 0 0), (.slice none 0 0), (.slice none 0 0), (.slice none 0 0), (.string (bs [])), (.slice none 0 0), (.slice none 0 0), (.slice none 0 0), (.bool false), (.slice none 0 0)]) zero68 rfl ?_)
  intro T J O P I M
  have O : ¬ F0S J := fun hf => by have := (hS.lt _ hf).2; omega
  have P : ¬ FV J := fun hf => by have := (hVI.lt _ hf).2; omega
  have T : t.ownBlock ≠ some J := fun hh => by have := (l.lt _ hh).2; omega
  obtain ⟨hb, _⟩ := yE hb M
  have hxv := hxv.keep0 M
  obtain ⟨b, g⟩ := kb2 M b g
  have U := I
  have hV' := hV.keep0 (zQ hb)
  refine zZ size68 (zA c rfl) (zA c rfl) rfl (by simp only [yA, yB, yC, yD, (hV'.2 (V.getD i default) (getD_mem zx)).1.one, (hV'.2 (V.getD i default) (getD_mem zx)).2.1.ff.1.one, (hV'.2 (V.getD i default) (getD_mem zx)).2.1.ff.2.1.one, (hV'.2 (V.getD i default) (getD_mem zx)).2.1.ff.2.2.1.1.one, (hV'.2 (V.getD i default) (getD_mem zx)).2.1.ff.2.2.2.1.one, (hV'.2 (V.getD i default) (getD_mem zx)).2.1.ff.2.2.2.2.1.1.one, (hV'.2 (V.getD i default) (getD_mem zx)).2.1.ff.2.2.2.2.2.1.1.one, (hV'.2 (V.getD i default) (getD_mem zx)).2.1.ff.2.2.2.2.2.2.1.one, (hV'.2 (V.getD i default) (getD_mem zx)).2.1.nvr.one]; try rfl) I rfl ?_
  intro X I W
  have := W.size
  have b := b.keep W (sN b U)
  have g := g.keep W (sN g U)
  have hS := (hS.kz M).keepG (Gr.of W) (Dj.one O)
  have r := (r.keep0 M).keepX U W zz
  have hxv := hxv.keep W (sN hxv U)
  have hVI := (hVI.kz M).keepG (Gr.of W) (Dj.one P)
  have l := (l.keep0 M).keep W (.inr T)
  have hb := below_step1 hb W hb.size zx
  refine zB (H _ _ (zF fun _ H => ?_))
  have hV' := hV.keep0 (zQ hb)
  have hvi := hV'.2 (V.getD i default) (getD_mem zx)
  have hvs := hvi.1
  have hva := hvi.2.1
  have hvz := hvi.2.2
  have M := fun k hk => (l.lt k hk).2
  have lw_lv := fun k hk => (r.lt k hk).2
  have lw_FS := fun k hk => (hS.lt k hk).2
  refine reg_split (hd := [_, _, _, _, _, _, _, _]) (tl := _) 8 mixed zy rfl rfl (any_treek (φ := phiV [(fun uz => uz = (ptr J 1)), (fun uz => uz = (V.getD i default).sv), (fun _ => True), (fun uz => uz = (ptr J 2)), (fun uz => uz = (.agg #[(.int .i64 (V.getD i default).act.f.kind), (.string (bs (V.getD i default).act.f.tb)), (.string (bs (V.getD i default).act.f.nm)), (V.getD i default).act.f.cv, (V.getD i default).act.f.gv, (V.getD i default).act.f.vv, (V.getD i default).act.f.iv, (.string (bs (V.getD i default).act.f.join)), (V.getD i default).act.f.ov, (V.getD i default).act.f.wv, (V.getD i default).act.f.rv, (.bool (V.getD i default).act.f.desc), (V.getD i default).act.nv])), (fun _ => True), (fun uz => uz = (ptr J 1)), (fun _ => True)]) (G := fun K w' => 7 ∈ K → (Bx w' J 68 [(.string (bs (V.getD i default).nm)), (V.getD i default).sv, (.int .i64 (V.getD i default).act.f.kind), (.string (bs (V.getD i default).act.f.tb)), (.string (bs (V.getD i default).act.f.nm)), (V.getD i default).act.f.cv, (V.getD i default).act.f.gv, (V.getD i default).act.f.vv, (V.getD i default).act.f.iv, (.string (bs (V.getD i default).act.f.join)), (V.getD i default).act.f.ov, (V.getD i default).act.f.wv, (V.getD i default).act.f.rv, (.bool (V.getD i default).act.f.desc), (V.getD i default).act.nv])) [2, 5, 7] zy zy zy zy zy c (fun _ R S E h Q => (h Q).keep0 E) (fun _ => I) (ObRk9.cons ?_ (ObRk9.cons ?_ (ObRk9.pass rfl (ObRk9.cons ?_ (ObRk9.cons ?_ (ObRk9.pass rfl (ObRk9.cons ?_ (ObRk9.pass rfl (ObRk9.nil))))))))) (by simp only [putsL_defers]) ?_)
  ·
   intro eA tA aA wA hNA hckA hGA hbsA hdpA
   have Q := (hbsA 7 rfl).trans (zU c rfl)
   refine zM fld68_1 (zC hNA rfl Q) ?_
   exact obTk_end rfl rfl
  ·
   intro eA tA aA wA hNA hckA hGA hbsA hdpA
   have R : Sl aA 37 (ptr J 1) := (hdpA 0 _ 37 zy rfl rfl).2 rfl
   have hGA := hGA (hckA 7 rfl zy)
   refine zN one24 (zC hNA rfl R) (hGA.cell rfl) ?_
   exact obTk_end rfl rfl
  ·
   intro eA tA aA wA hNA hckA hGA hbsA hdpA
   have Q := (hbsA 7 rfl).trans (zU c rfl)
   refine zM fld68_2 (zC hNA rfl Q) ?_
   exact obTk_end rfl rfl
  ·
   intro eA tA aA wA hNA hckA hGA hbsA hdpA
   have R : Sl aA 40 (ptr J 2) := (hdpA 3 _ 40 zy rfl rfl).2 rfl
   have hGA := hGA (hckA 7 rfl zy)
   refine zX (cs := [(.int .i64 (V.getD i default).act.f.kind), (.string (bs (V.getD i default).act.f.tb)), (.string (bs (V.getD i default).act.f.nm)), (V.getD i default).act.f.cv, (V.getD i default).act.f.gv, (V.getD i default).act.f.vv, (V.getD i default).act.f.iv, (.string (bs (V.getD i default).act.f.join)), (V.getD i default).act.f.ov, (V.getD i default).act.f.wv, (V.getD i default).act.f.rv, (.bool (V.getD i default).act.f.desc), (V.getD i default).act.nv]) agg37 rfl (zC hNA rfl R) (fun j u hu => hGA.cell (at_pre9 (pre := [(.string (bs (V.getD i default).nm)), (V.getD i default).sv]) (suf := []) hu)) ?_
   exact obTk_end rfl rfl
  ·
   intro eA tA aA wA hNA hckA hGA hbsA hdpA
   have Q := (hbsA 7 rfl).trans (zU c rfl)
   refine zM fld68_1 (zC hNA rfl Q) ?_
   exact obTk_end rfl rfl
  refine ktk_step (rs := [2]) zy (one_mem ?_)
  intro R Q _ Y W Z S o_ ho_; obtain rfl := zE ho_
  obtain ⟨hb, _⟩ := yE hb Q
  have hS := hS.kz Q
  have hVI := hVI.kz Q
  have hvs := hvs.keep0 Q
  have Z : Sl Y 38 (V.getD i default).sv := (S 1 _ 38 zy rfl rfl).2 rfl
  refine zj ok50 (CloneL ((V.getD i default).strip) _ _ (by first | assumption | omega | (simp only [List.length_append, List.length_cons, List.length_nil, List.length_drop, List.length_take]; omega) | (dsimp only; omega) | decide | (simp [keyV, be8_len]; done)) (hvs.mono (Nat.zero_le _) zx)) ⟨(zC W rfl Z), trivial⟩ ?_
  rintro Y Z ⟨W, S⟩
  have W := zQ W
  obtain ⟨hb, _⟩ := yE hb W
  have hS := hS.kz W
  have hVI := hVI.kz W
  have I := (I.keep0 Q).keep0 W
  have S := S.mono (base' := R.heap.size) zx
  refine ktk_end (G := fun K w' => 7 ∈ K → (Bx w' J 68 [(.string (bs (V.getD i default).nm)), (V.getD i default).sv, (.int .i64 (V.getD i default).act.f.kind), (.string (bs (V.getD i default).act.f.tb)), (.string (bs (V.getD i default).act.f.nm)), (V.getD i default).act.f.cv, (V.getD i default).act.f.gv, (V.getD i default).act.f.vv, (V.getD i default).act.f.iv, (.string (bs (V.getD i default).act.f.join)), (V.getD i default).act.f.ov, (V.getD i default).act.f.wv, (V.getD i default).act.f.rv, (.bool (V.getD i default).act.f.desc), (V.getD i default).act.nv])) (todo := [2, 5, 7]) (i := 2) rfl (fun _ => I) (ktk_step (rs := [5]) zy (one_mem ?_))
  intro Z R _ ac aa ad ab o_ ho_; obtain rfl := zE ho_
  obtain ⟨hb, _⟩ := yE hb R
  have hS := hS.kz R
  have hVI := hVI.kz R
  have hva := ((hva.keep0 Q).keep0 W).keep0 R
  have ad : Sl ac 41 (.agg #[(.int .i64 (V.getD i default).act.f.kind), (.string (bs (V.getD i default).act.f.tb)), (.string (bs (V.getD i default).act.f.nm)), (V.getD i default).act.f.cv, (V.getD i default).act.f.gv, (V.getD i default).act.f.vv, (V.getD i default).act.f.iv, (.string (bs (V.getD i default).act.f.join)), (V.getD i default).act.f.ov, (V.getD i default).act.f.wv, (V.getD i default).act.f.rv, (.bool (V.getD i default).act.f.desc), (V.getD i default).act.nv]) := (ab 4 _ 41 zy rfl rfl).2 rfl
  refine zj ok51 (CopyS_all ((V.getD i default).act) (hva.mono (Nat.zero_le _) zx)) ⟨(zC aa rfl ad), trivial⟩ ?_
  rintro _ ae ⟨ac, aa, rfl, ab, ad⟩
  have ac := zQ ac
  obtain ⟨hb, _⟩ := yE hb ac
  have hS := hS.kz ac
  have hVI := hVI.kz ac
  have I := (I.keep0 R).keep0 ac
  refine ktk_end (G := fun K w' => 7 ∈ K → (Bx w' J 68 [(.string (bs (V.getD i default).nm)), (V.getD i default).sv, (.int .i64 (V.getD i default).act.f.kind), (.string (bs (V.getD i default).act.f.tb)), (.string (bs (V.getD i default).act.f.nm)), (V.getD i default).act.f.cv, (V.getD i default).act.f.gv, (V.getD i default).act.f.vv, (V.getD i default).act.f.iv, (.string (bs (V.getD i default).act.f.join)), (V.getD i default).act.f.ov, (V.getD i default).act.f.wv, (V.getD i default).act.f.rv, (.bool (V.getD i default).act.f.desc), (V.getD i default).act.nv])) (todo := [5, 7]) (i := 5) rfl (fun _ => I) (ktk_step (rs := [7]) zy (one_mem ?_))
  intro aj af _ ah ai ak ag o_ ho_; obtain rfl := zE ho_
  obtain ⟨hb, _⟩ := yE hb af
  have b := ((((b.keep0 Q).keep0 W).keep0 R).keep0 ac).keep0 af
  have g := ((((g.keep0 Q).keep0 W).keep0 R).keep0 ac).keep0 af
  have hxv := ((((hxv.keep0 Q).keep0 W).keep0 R).keep0 ac).keep0 af
  have I := I.keep0 af
  have S := ((S.keep0 R).keep0 ac).keep0 af
  have aj : Sl ah 43 (ptr J 1) := (ag 6 _ 43 zy rfl rfl).2 rfl
  have ak : Sl ah 39 Y := (zE ((ag 2 _ 39 zy rfl rfl).1 rfl)).symm
  have U := I
  refine za (vs := [Y]) (cs' := [(.string (bs (V.getD i default).nm)), Y, (.int .i64 (V.getD i default).act.f.kind), (.string (bs (V.getD i default).act.f.tb)), (.string (bs (V.getD i default).act.f.nm)), (V.getD i default).act.f.cv, (V.getD i default).act.f.gv, (V.getD i default).act.f.vv, (V.getD i default).act.f.iv, (.string (bs (V.getD i default).act.f.join)), (V.getD i default).act.f.ov, (V.getD i default).act.f.wv, (V.getD i default).act.f.rv, (.bool (V.getD i default).act.f.desc), (V.getD i default).act.nv]) size24 (zC ai rfl aj) (zC ai rfl ak) S.cl rfl (by simp only [yA, yB, yC, yD, S.one]; try rfl) I (zI rfl) rfl ?_
  intro ah I ag
  have := ag.size
  have b := b.keep ag (sN b U)
  have g := g.keep ag (sN g U)
  have hS := (hS.kz af).keepG (Gr.of ag) (Dj.one O)
  have hxv := hxv.keep ag (sN hxv U)
  have hVI := (hVI.kz af).keepG (Gr.of ag) (Dj.one P)
  have hb := below_step1 hb ag hb.size zx
  refine ktk_end0 (G := fun K w' => 7 ∈ K → (Bx w' J 68 [(.string (bs (V.getD i default).nm)), (V.getD i default).sv, (.int .i64 (V.getD i default).act.f.kind), (.string (bs (V.getD i default).act.f.tb)), (.string (bs (V.getD i default).act.f.nm)), (V.getD i default).act.f.cv, (V.getD i default).act.f.gv, (V.getD i default).act.f.vv, (V.getD i default).act.f.iv, (.string (bs (V.getD i default).act.f.join)), (V.getD i default).act.f.ov, (V.getD i default).act.f.wv, (V.getD i default).act.f.rv, (.bool (V.getD i default).act.f.desc), (V.getD i default).act.nv])) (todo := [7]) (i := 7) rfl (fun h => absurd h zz) ?_
  intro al K aj J ai ah ak
  have ai := ai.trans ((by simp only [putsL_defers] : _ = _).trans A)
  obtain ⟨hb, _⟩ := yE hb K
  obtain ⟨b, g⟩ := kb2 K b g
  have r := ((((((r.keep0 Q).keep0 W).keep0 R).keep0 ac).keep0 af).keepX U ag zz).keep0 K
  have hxv := hxv.keep0 K
  have S := (S.keepX U ag zz).keep0 K
  have ab := ((ab.keep0 af).keep ag sO).keep0 K
  have I := I.keep0 K
  have al := (ah 2 rfl).trans (zL c rfl o)
  have am := (ah 3 rfl).trans (zL c rfl z)
  have an := (ah 7 rfl).trans (zU c rfl)
  have ao := (ah 31 rfl).trans (zL c rfl C)
  have C := (ah 32 rfl).trans (zL c rfl y)
  have y := (ah 33 rfl).trans (zL c rfl p)
  have p : Sl aj 42 (.agg #[(.int .i64 aa.f.kind), (.string (bs aa.f.tb)), (.string (bs aa.f.nm)), aa.f.cv, aa.f.gv, aa.f.vv, aa.f.iv, (.string (bs aa.f.join)), aa.f.ov, aa.f.wv, aa.f.rv, (.bool aa.f.desc), aa.nv]) := (zE ((ak 5 _ 42 rfl rfl).1 rfl)).symm
  refine split_end (from_seq (tl := [_, _]) zz zy rfl (zM fld68_2 (zC J rfl an) ?_))
  have U := I
  refine za (vs := [(.int .i64 aa.f.kind), (.string (bs aa.f.tb)), (.string (bs aa.f.nm)), aa.f.cv, aa.f.gv, aa.f.vv, aa.f.iv, (.string (bs aa.f.join)), aa.f.ov, aa.f.wv, aa.f.rv, (.bool aa.f.desc), aa.nv]) (cs' := [(.string (bs (V.getD i default).nm)), Y, (.int .i64 aa.f.kind), (.string (bs aa.f.tb)), (.string (bs aa.f.nm)), aa.f.cv, aa.f.gv, aa.f.vv, aa.f.iv, (.string (bs aa.f.join)), aa.f.ov, aa.f.wv, aa.f.rv, (.bool aa.f.desc), aa.nv]) size37 (zA J rfl) (zC J rfl p) rfl rfl (by simp only [yA, yB, yC, yD, ab.ff.1.one, ab.ff.2.1.one, ab.ff.2.2.1.1.one, ab.ff.2.2.2.1.one, ab.ff.2.2.2.2.1.1.one, ab.ff.2.2.2.2.2.1.1.one, ab.ff.2.2.2.2.2.2.1.one, ab.nvr.one]; try rfl) I (zI rfl) rfl ?_
  intro ah I p
  have := p.size
  have b := b.keep p (sN b U)
  have g := g.keep p (sN g U)
  have hS := (hS.kz K).keepG (Gr.of p) (Dj.one O)
  have hxv := hxv.keep p (sN hxv U)
  have hVI := (hVI.kz K).keepG (Gr.of p) (Dj.one P)
  have S := S.keepX U p zz
  have hb := below_step1 hb p hb.size zx
  refine zB (H _ _ (zH ?_))
  have H := S
  have O : ∀ k, t.ownBlock = some k → k < Z.heap.size ∨ ae.heap.size ≤ k := fun k hk => .inl (by have := M k hk; omega)
  refine zM fld30_1 (zC J rfl am) (zN one28 (zA J rfl) (hxv.cell rfl) (zY agg68 rfl (zC J rfl an) I (op_bslice (e := 68) (pv := [(0, (.agg #[(.string (bs (V.getD i default).nm)), Y, (.int .i64 aa.f.kind), (.string (bs aa.f.tb)), (.string (bs aa.f.nm)), aa.f.cv, aa.f.gv, aa.f.vv, aa.f.iv, (.string (bs aa.f.join)), aa.f.ov, aa.f.wv, aa.f.rv, (.bool aa.f.desc), aa.nv]))]) (cs := [(.string (bs (V.getD i default).nm)), Y, (.int .i64 aa.f.kind), (.string (bs aa.f.tb)), (.string (bs aa.f.nm)), aa.f.cv, aa.f.gv, aa.f.vv, aa.f.iv, (.string (bs aa.f.join)), aa.f.ov, aa.f.wv, aa.f.rv, (.bool aa.f.desc), aa.nv]) ⟨rfl, (zA J rfl), trivial⟩ (by obtain ⟨_, _, _, rfl⟩ := S.sl; kernel_rfl) ?_)))
  intro ae aj Z P I t
  obtain ⟨hb, _⟩ := yE hb t
  have hS := hS.kz t
  have hVI := hVI.kz t
  have l := ((((((((l.keep0 Q).keep0 W).keep0 R).keep0 ac).keep0 af).keep ag (.inr T)).keep0 K).keep p (.inr T)).keep0 t
  have S := S.keep0 t
  have ab := (ab.keep p sO).keep0 t
  have K := l
  refine op_append slt28 (zA J rfl) K (zA J rfl) (Src.ofRd Tryz.underlying28 zz (RdC.ofBx (sz := 15) (n := 1) I rfl zz) (by simp only [yA, yB, yC, yD, S.one, ab.ff.1.one, ab.ff.2.1.one, ab.ff.2.2.1.1.one, ab.ff.2.2.2.1.one, ab.ff.2.2.2.2.1.1.one, ab.ff.2.2.2.2.2.1.1.one, ab.ff.2.2.2.2.2.2.1.one, ab.nvr.one]; try rfl)) (by unfold maxLen; omega) zx hb.size ?_
  intro Q T P I R
  have W : Dj FV (Bl Q) := Dj.step R (fun k hk => (hVI.lt k hk).2) hdjV.symm
  have := I.size
  have hS := hS.keepG (Gr.of I) (hS.notOwn K zz zz).symm
  have hxv := (hxv.keep0 t).keepO K I zz
  have hb := below_stepO hb K I hb.size zx
  have P : Own T w.heap.size 68 15 Q (s ++ [(DVw.mk (V.getD i default).nm Y (V.getD i default).strip aa)]).length (((s ++ [(DVw.mk (V.getD i default).nm Y (V.getD i default).strip aa)])).flatMap cellsW) := by exact P.cast (by simp) (by simp [cellsW])
  refine zM fld30_1 (zC J rfl am) ?_
  have hxv_old := hxv
  refine za (vs := [Q]) (cs' := [lv, Q]) size28 (zA J rfl) (zA J rfl) P.cl rfl (by simp only [yA, yB, yC, yD, P.one]; try rfl) hxv (zI rfl) rfl ?_
  intro Z hxv T
  have := T.size
  have b := ((b.keep0 t).keepO K I zz).keep T sB
  have g := ((g.keep0 t).keepO K I zz).keep T sB
  have hS := hS.keepG (Gr.of T) (Dj.one (hS.notBx hxv_old zz zz))
  have r := (((r.keepX U p zz).keep0 t).keepT K I zz).keepX hxv_old T zz
  have hVI := (hVI.keepG (Gr.of I) hdjV.symm).keepG (Gr.of T) (Dj.one x)
  have S := (S.keepT K I zz).keepX hxv_old T zz
  have ab := (ab.keep I O).keep T sO
  have P := P.keepX hxv_old T zz
  have hb := below_step1 hb T hb.size zx
  refine zB (m _ _ (zH (op_add (zC J rfl y) rfl (add64 zx) (zG (zA J rfl) (zB ?_)))))
  -- round 12F 34T
  exact zg _ J ai ⟨(i + 1), Q, (s ++ [(DVw.mk (V.getD i default).nm Y (V.getD i default).strip aa)]), _, rfl, (zL J rfl al), (zL J rfl am), (zL J rfl ao), (zL J rfl C), (zU J rfl).trans (congrArg (Value.int .i64) zx), zx, (by simp; omega), (same_next hlV hVS ⟨rfl, rfl, ad⟩), (dj_freshF hdjF lw_FS), (dj_fresh hdjT lw_lv), (fun h => h.elim x fun q => by omega), (fun h => h.elim F fun q => by omega), (dj_app W R M zx), hb, zx, b, g, hS, r, hxv, (hVI.snoc (L := X.heap.size) (B := ah.heap.size) (d := (DVw.mk (V.getD i default).nm Y (V.getD i default).strip aa)) ⟨(Own.rdB S H).mono zx (Nat.le_refl _), ab.mono zx zx, hvz⟩ zx zx), (P.cast (by simp) rfl)⟩ zx
 refine zB (m _ _ (zF fun _ m => wp_cond_false (zA c rfl) (wp_exit (then_exit (then_exit (blk_hit (a _ _ (zF fun _ a => zH (zY agg30 rfl (zC c rfl z) hxv ?_)))))))))
 have b := g
 refine zZ size30 (zC c rfl o) (zA c rfl) rfl (by simp only [yA, yB, yC, yD, r.one, l.one]; try rfl) g rfl ?_
 intro p g m
 have := m.size
 have hS := hS.keepG (Gr.of m) (Dj.one (hS.notBx b zz zz))
 have r := r.keepX b m zz
 have hVI := hVI.keepG (Gr.of m) (Dj.one F)
 have l := l.keepX b m zz
 have hb := below_step1 hb m hb.size zx
 refine zB (a _ _ (wp_ret (retC rfl A (zC c rfl o) agg30 rfl g ⟨_, rfl, ?_⟩)))
 obtain rfl : i = V.length := by omega
 exact ⟨hb, _, _, _, _, _, _, rfl, r, hS, by rw [hM, List.take_of_length_le zx], l, hVI, hdjV, hdjT, hdjF, hPw, hlV, hVS⟩

theorem Table2_ret {tv vv : Value} {D : List DTab} {V : List DVw} (x : List UInt8) {w : World} (hT : TsRd w w.heap.size tv D) (hD : D.length ≤ 1000000) (hsz : ∀ d ∈ D, d.t.cols.length ≤ 1000000 ∧ d.t.idx.length ≤ 1000000) (hV : VsFr w 0 w.heap.size vv V) : Ret Tryz.prog 12 #[(.agg #[tv, vv]), (.string (bs x))] w (fun v' w' => Below w.heap.size w w' ∧ ((tabAt (D.map DTab.t) x = none ∧ v' = .tuple #[.agg #[.string (bs []), .slice none 0 0, .slice none 0 0], .bool false]) ∨ (∃ d : DTab, tabAt (D.map DTab.t) x = some d.t ∧ v' = .tuple #[.agg #[.string (bs d.t.nm), d.cv, d.iv], .bool true] ∧ Own w' w.heap.size 48 3 d.cv d.t.cols.length (d.t.cols.flatMap cellsC) ∧ Own w' w.heap.size 9 1 d.iv d.t.idx.length (d.t.idx.map sv)))) := by
 have hR := hT.1
 have hb := Below.refl w.heap.size w
 refine enter (N := 20) Tryz.func12 rfl rfl (by simp) fun a hN hd hA => ?_
 have b : a.tmps.getD 0 undef = (.agg #[tv, vv]) := hA 0 (by simp)
 have c : a.tmps.getD 1 undef = (.string (bs x)) := hA 1 (by simp)
 clear hA
 refine zF fun _ a => zH (op_box (cs := [tv, vv]) (zC hN rfl b) rfl ?_)
 intro h k l g b e
 obtain ⟨hb, _⟩ := yE hb e
 refine op_alloc (cs := [(.string (bs [])), (.slice none 0 0), (.slice none 0 0)]) zero51 rfl ?_
 intro k h l m e g
 obtain ⟨hb, _⟩ := yE hb g
 have b := b.keep0 g
 refine zD rfl (zB (a _ _ (zF fun _ a => zH (zM fld30_0 (zA hN rfl) (zN one27 (zA hN rfl) (b.cell rfl) (zG (zC hN rfl c) ?_))))))
 have hR' := hR.keep0 (zQ hb)
 refine zj ok37 (findTable (L := (D : List DTab)) x (hR'.mono (Nat.zero_le _) zx)) ⟨(zA hN rfl), ⟨(zA hN rfl), ⟨rfl, trivial⟩⟩⟩ ?_
 rintro _ g ⟨c, rfl⟩
 have c := zQ c
 obtain ⟨hb, _⟩ := yE hb c
 obtain ⟨b, e⟩ := kb2 c b e
 refine zD (zA hN rfl) (zB (a _ _ (zF fun _ a => zF fun _ c => zH (zG (zA hN rfl) (op_lss (zA hN rfl) rfl (fun k => ?_) (fun k => ?_))))))
 ·
  refine zB (c _ _ (wp_cond_true (zA hN rfl) (zF fun _ c => zH (zf (pv := []) (v := (Value.agg #[(.string (bs [])), (.slice none 0 0), (.slice none 0 0)])) trivial zy (zZ size51 (zA hN rfl) (zA hN rfl) rfl rfl e rfl ?_)))))
  intro m e l
  have := l.size
  have hb := below_step1 hb l hb.size zx
  refine zD rfl (zB (c _ _ (wp_ret (zO ( (retD rfl hd (zA hN rfl) agg51 rfl e (zA hN rfl) ⟨_, rfl, ?_⟩))))))
  exact ⟨hb, .inl ⟨tab_none k, rfl⟩⟩
 refine zB (c _ _ (wp_cond_false (zA hN rfl) (wp_skip (a _ _ (zF fun _ a => zH ?_)))))
 obtain ⟨c, l, hkl, hkn, hkt⟩ := tab_some k
 refine zY agg30 rfl (zA hN rfl) b ?_
 have hT' := hT.keep0 (zQ hb)
 have hV' := hV.keep0 (zQ hb)
 refine zj ok22 (twin_ret (hT'.mono zx) hD hsz (hV'.mono (Nat.zero_le _) zx)) ⟨(zA hN rfl), trivial⟩ ?_
 rintro _ s ⟨l, z, F, k, y, o, r, rfl, m, b, t, p, q, H, A, G, E, B, C⟩
 have A : ∀ x, o x → g.heap.size ≤ x := fun x hx => (b.lt x hx).1
 have B : ¬ o h := fun hf => by have := A _ hf; have := e.lt; omega
 have h : ∀ x, r x → g.heap.size ≤ x := fun x hx => (q.lt x hx).1
 have l := zQ l
 obtain ⟨hb, _⟩ := yE hb l
 have e := e.keep0 l
 have m := m.mono (base' := w.heap.size) zx
 have p := p.mono (base' := w.heap.size) zx
 have b : TabsR s w.heap.size k o := b.mono zx
 have q : VsIn s w.heap.size y r := q.mono zx
 have hDl := dt_len t
 have hDt := dt_get t c
 refine op_fieldv (v := z) (zA hN rfl) (by obtain ⟨_, _, _, rfl⟩ := m.sl; obtain ⟨_, _, _, rfl⟩ := p.sl; kernel_rfl) (zG (zA hN rfl) (zh slt27 (zA hN rfl) m.rdw (zA hN rfl) zx zx ?_))
 intro h l m o g
 refine zX (cs := [(.string (bs (k.getD c default).t.nm)), (k.getD c default).cv, (k.getD c default).iv]) agg51 rfl (zA hN rfl) (fun j u hu => g j u (by have := (List.getElem?_eq_some_iff.1 hu).1; simpa using this) ((el_dt (i := c) zx zx) j u hu)) (zZ size51 (zA hN rfl) (zA hN rfl) rfl (by simp only [yA, yB, yC, yD, (b.1 (k.getD c default) (getD_mem zx)).1.one, (b.1 (k.getD c default) (getD_mem zx)).2.one]; try rfl) e rfl ?_)
 intro h e g
 have := g.size
 have b := b.keepG (Gr.of g) (Dj.one B)
 have hb := below_step1 hb g hb.size zx
 refine zD rfl (zB (a _ _ (wp_ret (retD rfl hd (zA hN rfl) agg51 rfl e (zA hN rfl) ⟨_, rfl, ?_⟩))))
 have a := b.1 (k.getD c default) (getD_mem zx)
 exact ⟨hb, .inr ⟨_, by rw [hkt, hDt], rfl, a.1, a.2⟩⟩

theorem Table2T {tv : Value} {vv : Value} {D : List DTab} {V : List DVw} {x : List UInt8} {w : World} (hk : (tabAt (D.map DTab.t) x).isSome = true) (hT : TsRd w w.heap.size tv D) (hD : D.length ≤ 1000000) (hsz : ∀ d ∈ D, d.t.cols.length ≤ 1000000 ∧ d.t.idx.length ≤ 1000000) (hV : VsFr w 0 w.heap.size vv V) : Ret Tryz.prog 12 #[.agg #[tv, vv], .string (bs x)] w (fun v' w' => Below w.heap.size w w' ∧ ∃ d : DTab, v' = .tuple #[.agg #[.string (bs d.t.nm), d.cv, d.iv], .bool true] ∧ tabAt (D.map DTab.t) x = some d.t ∧ Own w' w.heap.size 48 3 d.cv d.t.cols.length (d.t.cols.flatMap cellsC) ∧ Own w' w.heap.size 9 1 d.iv d.t.idx.length (d.t.idx.map sv)) :=
  (Table2_ret x hT hD hsz hV).mono fun v' w' h => ⟨h.1, h.2.elim (fun q => by rw [q.1] at hk; cases hk) fun ⟨d, h1, h2, h3⟩ => ⟨d, h2, h1, h3⟩⟩
theorem Table2F {tv : Value} {vv : Value} {D : List DTab} {V : List DVw} {x : List UInt8} {w : World} (hk : (tabAt (D.map DTab.t) x).isSome = false) (hT : TsRd w w.heap.size tv D) (hD : D.length ≤ 1000000) (hsz : ∀ d ∈ D, d.t.cols.length ≤ 1000000 ∧ d.t.idx.length ≤ 1000000) (hV : VsFr w 0 w.heap.size vv V) : Ret Tryz.prog 12 #[.agg #[tv, vv], .string (bs x)] w (fun v' w' => Below w.heap.size w w' ∧ v' = .tuple #[.agg #[.string (bs []), .slice none 0 0, .slice none 0 0], .bool false]) :=
  (Table2_ret x hT hD hsz hV).mono fun v' w' h => ⟨h.1, h.2.elim (fun q => q.2) fun ⟨d, h1, _⟩ => by rw [h1] at hk; cases hk⟩

theorem Column_ret (a : List UInt8) (l : List PCol) (cv iv : Value) (x : List UInt8) (w : World) (hl : RdC w 0 w.heap.size 3 cv l.length (l.flatMap cellsC)) : Ret Tryz.prog 13 #[(.agg #[(.string (bs a)), cv, iv]), (.string (bs x))] w (fun v' w' => Below w.heap.size w w' ∧ v' = .int .i64 (colIx l x)) := by
 have hb := Below.refl w.heap.size w
 refine enter (N := 9) Tryz.func13 rfl rfl (by simp) fun b hN hd hA => ?_
 have c : b.tmps.getD 0 undef = (.agg #[(.string (bs a)), cv, iv]) := hA 0 (by simp)
 have e : b.tmps.getD 1 undef = (.string (bs x)) := hA 1 (by simp)
 clear hA
 refine zF fun _ b => zH (op_box (cs := [(.string (bs a)), cv, iv]) (zC hN rfl c) rfl ?_)
 intro h j m k g c
 obtain ⟨hb, _⟩ := yE hb c
 refine zD rfl (zB (b _ _ (zF fun _ b => zH (zM fld51_1 (zA hN rfl) (zN one32 (zA hN rfl) (g.cell rfl) (zG (zC hN rfl e) ?_))))))
 have hl' := hl.keep0 (zQ hb)
 refine zj ok39 (findCol (L := (l : List PCol)) x (hl'.mono (Nat.zero_le _) zx)) ⟨(zA hN rfl), ⟨(zA hN rfl), ⟨rfl, trivial⟩⟩⟩ ?_
 rintro _ e ⟨c, rfl⟩
 have c := zQ c
 obtain ⟨hb, _⟩ := yE hb c
 refine zD (zA hN rfl) (zB (b _ _ (wp_ret (ret1 rfl hd (zA hN rfl) ⟨_, rfl, ?_⟩))))
 exact ⟨hb, rfl⟩

theorem IxS_ix {l : List (List UInt8)} {v : Value} (x : List UInt8) {w : World} (hl : RdC w 0 w.heap.size 1 v l.length (l.map sv)) : Ret Tryz.prog 66 #[v, (.string (bs x))] w (fun v' w' => Below w.heap.size w w' ∧ v' = .int .i64 (ixOf (fun y => decide (x = y)) l)) := by
 have hlm := rd_len hl
 have hb := Below.refl w.heap.size w
 refine enter (N := 19) Tryz.func66 rfl rfl (by simp) fun a hN hd hA => ?_
 have b : a.tmps.getD 0 undef = v := hA 0 (by simp)
 have c : a.tmps.getD 1 undef = (.string (bs x)) := hA 1 (by simp)
 clear hA
 refine zF fun _ e => zH (zD rfl (zB (e _ _ (zF fun _ e => zF fun _ a => zH (zG (zC hN rfl b) ?_)))))
 have hl' := hl.keep0 (zQ hb)
 refine op_len_rd Tryz.underlying49 (zA hN rfl) hl' (zG rfl (zB (a _ _ (wp_block (loop_m (fun mz_ az_ w' => ∃ (i : Nat), mz_ = l.length - i ∧ (Sl az_ 0 v) ∧ (Sl az_ 1 (.string (bs x))) ∧ (Sl az_ 7 (.int .i64 ((l.length : Nat) : Int))) ∧ (Sl az_ 8 (.int .i64 ((i : Nat) : Int))) ∧ (i ≤ l.length) ∧ (∀ j, j < i → decide (x = (l.getD j [])) = false) ∧ (Below w.heap.size w w') ∧ (w.heap.size ≤ w'.heap.size)) _ hN hd ⟨0, rfl, (zL hN rfl b), (zL hN rfl c), (zU hN rfl), (zU hN rfl), (Nat.zero_le _), (fun _ h => absurd h (Nat.not_lt_zero _)), hb, (Nat.le_refl _)⟩ ?_)))))
 rintro _ q r b c ⟨i, rfl, o, m, k, g, hi, hall, hb, s⟩
 have := hb.size
 refine zF fun _ a => zH (op_lss (zC b rfl g) (zC b rfl k) (fun q => ?_) (fun q => ?_))
 ·
  refine zB (a _ _ (zF fun _ a => wp_cond_true (zA b rfl) (wp_skip (a _ _ (zF fun _ a => wp_block ?_)))))
  refine zF fun _ q => zH (zG (zC b rfl g) (zD (zA b rfl) (zB (q _ _ (zF fun _ q => zH (zG (zC b rfl m) (zG (zC b rfl o) (zG (zA b rfl) ?_))))))))
  have hl' := hl.keep0 (zQ hb)
  refine zh slt49 (zA b rfl) hl' (zA b rfl) zx zx ?_
  intro z u s t r
  refine zN (v := (Value.string (bs (l.getD i [])))) one9 (zA b rfl) (by have := r 0 (.string (bs (l.getD i []))) zz (el_sv (i := i) zx zx); simpa using this) (op_seql (zA b rfl) (zA b rfl) (fun s => ?_) (fun s => ?_))
  ·
   refine zB (q _ _ (wp_cond_true (zA b rfl) (zF fun _ q => zH (zG (zA b rfl) (zD (zA b rfl) (zB (q _ _ (wp_ret (zb (zO (zO (zb (zO ( (ret1 rfl c (zA b rfl) ⟨_, rfl, ?_⟩)))))))))))))))
   exact ⟨hb, congrArg (Value.int .i64) (ixOf_hit (p := (fun y => decide (x = y))) zx hall (decide_eq_true s)).symm⟩
  refine zB (q _ _ (wp_cond_false (zA b rfl) (wp_skip (a _ _ (zH (op_add (zC b rfl g) rfl (add64 zx) (zG (zA b rfl) (zB ?_))))))))
  -- round 9T 16F
  exact zg _ b c ⟨(i + 1), rfl, (zL b rfl o), (zL b rfl m), (zL b rfl k), (zU b rfl).trans (congrArg (Value.int .i64) zx), zx, (all_next hall (decide_eq_false s)), hb, zx⟩ zx
 refine zB (a _ _ (zF fun _ a => wp_cond_false (zA b rfl) (wp_exit (then_exit (then_exit (blk_hit (e _ _ (zF fun _ e => zH (zD rfl (zB (e _ _ (wp_ret (ret1 rfl c (zA b rfl) ⟨_, rfl, ?_⟩)))))))))))))
 exact ⟨hb, congrArg (Value.int .i64) (ixOf_none (p := (fun y => decide (x = y))) zx hall).symm⟩

theorem IxS_has {l : List (List UInt8)} {v : Value} (x : List UInt8) {w : World} (hl : RdC w 0 w.heap.size 1 v l.length (l.map sv)) : Ret Tryz.prog 41 #[v, (.string (bs x))] w (fun v' w' => Below w.heap.size w w' ∧ v' = .bool (decide (x ∈ l))) := by
 have hb := Below.refl w.heap.size w
 refine enter (N := 9) Tryz.func41 rfl rfl (by simp) fun a hN hd hA => ?_
 have b : a.tmps.getD 0 undef = v := hA 0 (by simp)
 have c : a.tmps.getD 1 undef = (.string (bs x)) := hA 1 (by simp)
 clear hA
 refine zF fun _ a => zH (zD rfl (zB (a _ _ (zF fun _ a => zH (zG (zC hN rfl b) (zG (zC hN rfl c) ?_))))))
 have hl' := hl.keep0 (zQ hb)
 refine zj ok66 (IxS_ix x (hl'.mono (Nat.zero_le _) zx)) ⟨(zA hN rfl), ⟨(zA hN rfl), trivial⟩⟩ ?_
 rintro _ c ⟨b, rfl⟩
 have b := zQ b
 obtain ⟨hb, _⟩ := yE hb b
 refine op_geq (zA hN rfl) rfl (fun b => ?_) (fun b => ?_)
 ·
  refine zD (zA hN rfl) (zB (a _ _ (wp_ret (ret1 rfl hd (zA hN rfl) ⟨_, rfl, ?_⟩))))
  exact ⟨hb, congrArg Value.bool (decide_eq_true (ix_mem.1 b)).symm⟩
 refine zD (zA hN rfl) (zB (a _ _ (wp_ret (ret1 rfl hd (zA hN rfl) ⟨_, rfl, ?_⟩))))
 exact ⟨hb, congrArg Value.bool (decide_eq_false (fun h => b (ix_mem.2 h))).symm⟩

theorem IxI_ix {l : List (Int)} {v : Value} (x : Int) {w : World} (hl : RdC w 0 w.heap.size 1 v l.length (l.map (Value.int .i64))) : Ret Tryz.prog 81 #[v, (.int .i64 x)] w (fun v' w' => Below w.heap.size w w' ∧ v' = .int .i64 (ixOf (fun y => decide (x = y)) l)) := by
 have hlm := rd_len hl
 have hb := Below.refl w.heap.size w
 refine enter (N := 19) Tryz.func81 rfl rfl (by simp) fun a hN hd hA => ?_
 have b : a.tmps.getD 0 undef = v := hA 0 (by simp)
 have c : a.tmps.getD 1 undef = (.int .i64 x) := hA 1 (by simp)
 clear hA
 refine zF fun _ e => zH (zD rfl (zB (e _ _ (zF fun _ e => zF fun _ a => zH (zG (zC hN rfl b) ?_)))))
 have hl' := hl.keep0 (zQ hb)
 refine op_len_rd Tryz.underlying83 (zA hN rfl) hl' (zG rfl (zB (a _ _ (wp_block (loop_m (fun mz_ az_ w' => ∃ (i : Nat), mz_ = l.length - i ∧ (Sl az_ 0 v) ∧ (Sl az_ 1 (.int .i64 x)) ∧ (Sl az_ 7 (.int .i64 ((l.length : Nat) : Int))) ∧ (Sl az_ 8 (.int .i64 ((i : Nat) : Int))) ∧ (i ≤ l.length) ∧ (∀ j, j < i → decide (x = (l.getD j 0)) = false) ∧ (Below w.heap.size w w') ∧ (w.heap.size ≤ w'.heap.size)) _ hN hd ⟨0, rfl, (zL hN rfl b), (zL hN rfl c), (zU hN rfl), (zU hN rfl), (Nat.zero_le _), (fun _ h => absurd h (Nat.not_lt_zero _)), hb, (Nat.le_refl _)⟩ ?_)))))
 rintro _ q s b c ⟨i, rfl, k, m, o, g, hi, hall, hb, r⟩
 have := hb.size
 refine zF fun _ a => zH (op_lss (zC b rfl g) (zC b rfl o) (fun q => ?_) (fun q => ?_))
 ·
  refine zB (a _ _ (zF fun _ a => wp_cond_true (zA b rfl) (wp_skip (a _ _ (zF fun _ a => wp_block ?_)))))
  refine zF fun _ q => zH (zG (zC b rfl g) (zD (zA b rfl) (zB (q _ _ (zF fun _ q => zH (zG (zC b rfl m) (zG (zC b rfl k) (zG (zA b rfl) ?_))))))))
  have hl' := hl.keep0 (zQ hb)
  refine zh slt83 (zA b rfl) hl' (zA b rfl) zx zx ?_
  intro u s t z r
  refine zN (v := (Value.int .i64 (l.getD i 0))) one3 (zA b rfl) (by have := r 0 (.int .i64 (l.getD i 0)) zz (el_i64 (i := i) zx zx); simpa using this) (op_eql (zA b rfl) (zA b rfl) (fun s => ?_) (fun s => ?_))
  ·
   refine zB (q _ _ (wp_cond_true (zA b rfl) (zF fun _ q => zH (zG (zA b rfl) (zD (zA b rfl) (zB (q _ _ (wp_ret (zb (zO (zO (zb (zO ( (ret1 rfl c (zA b rfl) ⟨_, rfl, ?_⟩)))))))))))))))
   exact ⟨hb, congrArg (Value.int .i64) (ixOf_hit (p := (fun y => decide (x = y))) zx hall (decide_eq_true s)).symm⟩
  refine zB (q _ _ (wp_cond_false (zA b rfl) (wp_skip (a _ _ (zH (op_add (zC b rfl g) rfl (add64 zx) (zG (zA b rfl) (zB ?_))))))))
  -- round 9T 16F
  exact zg _ b c ⟨(i + 1), rfl, (zL b rfl k), (zL b rfl m), (zL b rfl o), (zU b rfl).trans (congrArg (Value.int .i64) zx), zx, (all_next hall (decide_eq_false s)), hb, zx⟩ zx
 refine zB (a _ _ (zF fun _ a => wp_cond_false (zA b rfl) (wp_exit (then_exit (then_exit (blk_hit (e _ _ (zF fun _ e => zH (zD rfl (zB (e _ _ (wp_ret (ret1 rfl c (zA b rfl) ⟨_, rfl, ?_⟩)))))))))))))
 exact ⟨hb, congrArg (Value.int .i64) (ixOf_none (p := (fun y => decide (x = y))) zx hall).symm⟩

theorem IxI_has {l : List (Int)} {v : Value} (x : Int) {w : World} (hl : RdC w 0 w.heap.size 1 v l.length (l.map (Value.int .i64))) : Ret Tryz.prog 56 #[v, (.int .i64 x)] w (fun v' w' => Below w.heap.size w w' ∧ v' = .bool (decide (x ∈ l))) := by
 have hb := Below.refl w.heap.size w
 refine enter (N := 9) Tryz.func56 rfl rfl (by simp) fun a hN hd hA => ?_
 have b : a.tmps.getD 0 undef = v := hA 0 (by simp)
 have c : a.tmps.getD 1 undef = (.int .i64 x) := hA 1 (by simp)
 clear hA
 refine zF fun _ a => zH (zD rfl (zB (a _ _ (zF fun _ a => zH (zG (zC hN rfl b) (zG (zC hN rfl c) ?_))))))
 have hl' := hl.keep0 (zQ hb)
 refine zj ok81 (IxI_ix x (hl'.mono (Nat.zero_le _) zx)) ⟨(zA hN rfl), ⟨(zA hN rfl), trivial⟩⟩ ?_
 rintro _ c ⟨b, rfl⟩
 have b := zQ b
 obtain ⟨hb, _⟩ := yE hb b
 refine op_geq (zA hN rfl) rfl (fun b => ?_) (fun b => ?_)
 ·
  refine zD (zA hN rfl) (zB (a _ _ (wp_ret (ret1 rfl hd (zA hN rfl) ⟨_, rfl, ?_⟩))))
  exact ⟨hb, congrArg Value.bool (decide_eq_true (ix_mem.1 b)).symm⟩
 refine zD (zA hN rfl) (zB (a _ _ (wp_ret (ret1 rfl hd (zA hN rfl) ⟨_, rfl, ?_⟩))))
 exact ⟨hb, congrArg Value.bool (decide_eq_false (fun h => b (ix_mem.2 h))).symm⟩

theorem Indexed_ret {a : List UInt8} {l : List PCol} {ix : List (List UInt8)} {cv iv : Value} (x : List UInt8) {w : World} (hl : RdC w 0 w.heap.size 3 cv l.length (l.flatMap cellsC)) (hi : RdC w 0 w.heap.size 1 iv ix.length (ix.map sv)) : Ret Tryz.prog 14 #[(.agg #[(.string (bs a)), cv, iv]), (.string (bs x))] w (fun v' w' => Below w.heap.size w w' ∧ v' = .bool (decide (colIx l x = 0 ∨ x ∈ ix))) := by
 have hb := Below.refl w.heap.size w
 refine enter (N := 15) Tryz.func14 rfl rfl (by simp) fun c hN hd hA => ?_
 have e : c.tmps.getD 0 undef = (.agg #[(.string (bs a)), cv, iv]) := hA 0 (by simp)
 have g : c.tmps.getD 1 undef = (.string (bs x)) := hA 1 (by simp)
 clear hA
 refine zF fun _ c => zH (op_box (cs := [(.string (bs a)), cv, iv]) (zC hN rfl e) rfl ?_)
 intro m o q p e k
 obtain ⟨hb, _⟩ := yE hb k
 refine zD rfl (zB (c _ _ (zF fun _ c => zH (zY agg51 rfl (zA hN rfl) e (zG (zC hN rfl g) ?_)))))
 have hl' := hl.keep0 (zQ hb)
 refine zj ok13 (Column_ret a l _ iv x _ (hl'.mono (Nat.zero_le _) zx)) ⟨(zA hN rfl), ⟨(zA hN rfl), trivial⟩⟩ ?_
 rintro _ m ⟨k, rfl⟩
 have k := zQ k
 obtain ⟨hb, _⟩ := yE hb k
 have e := e.keep0 k
 refine op_eql (zA hN rfl) rfl (fun k => ?_) (fun k => ?_)
 ·
  refine zG (zA hN rfl) (zR (j := 4) (dj := 9) (b := false) rfl rfl rfl (zA hN rfl) rfl rfl (zR (j := 4) (dj := 9) (b := false) rfl rfl rfl (zA hN rfl) rfl rfl (zR (j := 4) (dj := 9) (b := false) rfl rfl rfl (zA hN rfl) rfl rfl (zR (j := 4) (dj := 9) (b := false) rfl rfl rfl (zA hN rfl) rfl rfl (zc (zA hN rfl) rfl (zD (zA hN rfl) (zB (c _ _ (wp_ret (ret1 rfl hd (zA hN rfl) ⟨_, rfl, ?_⟩))))))))))
  exact ⟨hb, congrArg Value.bool (decide_eq_true (.inl k)).symm⟩
 refine zG (zA hN rfl) (zS (j := 4) (dj := 9) (b := false) rfl rfl rfl (zA hN rfl) (zM fld51_2 (zA hN rfl) (zS (j := 4) (dj := 9) (b := false) rfl rfl rfl (zA hN rfl) (zN one49 (zA hN rfl) (e.cell rfl) (zS (j := 4) (dj := 9) (b := false) rfl rfl rfl (zA hN rfl) (zG (zC hN rfl g) (zS (j := 4) (dj := 9) (b := false) rfl rfl rfl (zA hN rfl) ?_)))))))
 have hi' := hi.keep0 (zQ hb)
 refine zj ok41 (IxS_has x (hi'.mono (Nat.zero_le _) zx)) ⟨(zA hN rfl), ⟨(zA hN rfl), trivial⟩⟩ ?_
 rintro _ g ⟨e, rfl⟩
 have e := zQ e
 obtain ⟨hb, _⟩ := yE hb e
 rcases Bool.eq_false_or_eq_true ((decide (x ∈ ix))) with e | e
 ·
  rw [e]
  refine zd (zA hN rfl) (zA hN rfl) (zD (zA hN rfl) (zB (c _ _ (wp_ret (ret1 rfl hd (zA hN rfl) ⟨_, rfl, ?_⟩)))))
  exact ⟨hb, congrArg Value.bool (decide_eq_true (.inr (of_decide_eq_true e))).symm⟩
 rw [e]
 refine zd (zA hN rfl) (zA hN rfl) (zD (zA hN rfl) (zB (c _ _ (wp_ret (ret1 rfl hd (zA hN rfl) ⟨_, rfl, ?_⟩)))))
 exact ⟨hb, congrArg Value.bool (decide_eq_false (fun h => h.elim k (of_decide_eq_false e))).symm⟩

theorem colR1 (d : PCol) {w : World} : Ret Tryz.prog 75 #[(.agg #[(.string (bs d.nm)), (.int .i64 d.kind), (.string (bs d.ref))])] w (fun v' w' => Below w.heap.size w w' ∧ v' = .bool (decide (d.ref ≠ []))) := by
 have hb := Below.refl w.heap.size w
 refine enter (N := 6) Tryz.func75 rfl rfl (by simp) fun a hN hd hA => ?_
 have b : a.tmps.getD 0 undef = (.agg #[(.string (bs d.nm)), (.int .i64 d.kind), (.string (bs d.ref))]) := hA 0 (by simp)
 clear hA
 refine zF fun _ a => zH (op_box (cs := [(.string (bs d.nm)), (.int .i64 d.kind), (.string (bs d.ref))]) (zC hN rfl b) rfl ?_)
 intro j k g e c b
 obtain ⟨hb, _⟩ := yE hb b
 refine zD rfl (zB (a _ _ (zF fun _ a => zH (zM fld48_2 (zA hN rfl) (zN one9 (zA hN rfl) (c.cell rfl) (op_sneq (zA hN rfl) rfl (fun b => ?_) (fun b => ?_)))))))
 ·
  refine zD (zA hN rfl) (zB (a _ _ (wp_ret (ret1 rfl hd (zA hN rfl) ⟨_, rfl, ?_⟩))))
  exact ⟨hb, congrArg Value.bool (decide_eq_true b).symm⟩
 refine zD (zA hN rfl) (zB (a _ _ (wp_ret (ret1 rfl hd (zA hN rfl) ⟨_, rfl, ?_⟩))))
 exact ⟨hb, congrArg Value.bool (decide_eq_false (fun h => h b)).symm⟩

theorem ContRef {L : List PCol} {v : Value} {w : World} (hl : RdC w 0 w.heap.size 3 v L.length (L.flatMap cellsC)) : Ret Tryz.prog 74 #[v, (.func (.func 75) #[] #[])] w (fun v' w' => Below w.heap.size w w' ∧ v' = .bool (decide (0 ≤ ixOf (fun d : PCol => decide (d.ref ≠ [])) L))) := by
 have hb := Below.refl w.heap.size w
 refine enter (N := 9) Tryz.func74 rfl rfl (by simp) fun a hN hd hA => ?_
 have b : a.tmps.getD 0 undef = v := hA 0 (by simp)
 have c : a.tmps.getD 1 undef = (.func (.func 75) #[] #[]) := hA 1 (by simp)
 clear hA
 refine zF fun _ a => zH (zD rfl (zB (a _ _ (zF fun _ a => zH (zG (zC hN rfl b) (zG (zC hN rfl c) ?_))))))
 have hl' := hl.keep0 (zQ hb)
 refine zj ok64 (IdxC (g := 75) (fs := []) (cs := []) (p := (fun d : PCol => decide (d.ref ≠ []))) (hl'.mono (Nat.zero_le _) zx) ok75 (fun i hi c b => colR1 (L.getD i default))) ⟨(zA hN rfl), ⟨(zA hN rfl), trivial⟩⟩ ?_
 rintro _ c ⟨b, rfl⟩
 have b := zQ b
 obtain ⟨hb, _⟩ := yE hb b
 refine op_geq (zA hN rfl) rfl (fun b => ?_) (fun b => ?_)
 ·
  refine zD (zA hN rfl) (zB (a _ _ (wp_ret (ret1 rfl hd (zA hN rfl) ⟨_, rfl, ?_⟩))))
  exact ⟨hb, congrArg Value.bool (decide_eq_true b).symm⟩
 refine zD (zA hN rfl) (zB (a _ _ (wp_ret (ret1 rfl hd (zA hN rfl) ⟨_, rfl, ?_⟩))))
 exact ⟨hb, congrArg Value.bool (decide_eq_false b).symm⟩

theorem col_ret {tv vv cv : Value} {D : List DTab} {V : List DVw} {cols : List PCol} {i : Nat} {w : World} (hT : TsRd w w.heap.size tv D) (hD : D.length ≤ 1000000) (hsz : ∀ d ∈ D, d.t.cols.length ≤ 1000000 ∧ d.t.idx.length ≤ 1000000) (hV : VsFr w 0 w.heap.size vv V) (hc : RdC w 0 w.heap.size 3 cv cols.length (cols.flatMap cellsC)) (hi : i < cols.length) : Ret Tryz.prog 52 #[(.agg #[tv, vv]), cv, (.int .i64 ((i : Nat) : Int))] w (fun v' w' => Below w.heap.size w w' ∧ v' = .int .i64 (colE (D.map DTab.t) cols i)) := by
 have hR := hT.1
 have hcm := rd_len hc
 obtain ⟨a, hcap, c⟩ := rd_capC hc zx
 have hch := rd_hiC hc (Nat.le_of_lt hi) zx
 have hb := Below.refl w.heap.size w
 refine enter (N := 67) Tryz.func52 rfl rfl (by simp) fun a hN hd hA => ?_
 have c : a.tmps.getD 0 undef = (.agg #[tv, vv]) := hA 0 (by simp)
 have e : a.tmps.getD 1 undef = cv := hA 1 (by simp)
 have k : a.tmps.getD 2 undef = (.int .i64 ((i : Nat) : Int)) := hA 2 (by simp)
 clear hA
 refine zF fun _ a => zH (op_box (cs := [tv, vv]) (zC hN rfl c) rfl ?_)
 intro l r p q c o
 obtain ⟨hb, _⟩ := yE hb o
 refine zD rfl (zB (a _ _ (zF fun _ a => zH (zG (zC hN rfl e) (zG (zC hN rfl k) ?_)))))
 have hc' := hc.keep0 (zQ hb)
 refine zh slt32 (zA hN rfl) hc' (zA hN rfl) zx zx ?_
 intro q r s p o
 refine zX (cs := [(.string (bs (cols.getD i default).nm)), (.int .i64 (cols.getD i default).kind), (.string (bs (cols.getD i default).ref))]) agg48 rfl (zA hN rfl) (fun j u hu => o j u (by have := (List.getElem?_eq_some_iff.1 hu).1; simpa using this) ((el_pc (i := i) zx zx) j u hu)) (op_alloc (cs := [(.string (bs [])), (.int .i64 0), (.string (bs []))]) zero48 rfl ?_)
 intro s p r t o q
 obtain ⟨hb, _⟩ := yE hb q
 have c := c.keep0 q
 have q := o
 refine zZ size48 (zA hN rfl) (zA hN rfl) rfl rfl o rfl ?_
 intro s o r
 have := r.size
 have c := c.keep r (sN c q)
 have hb := below_step1 hb r hb.size zx
 refine zB (a _ _ (zF fun _ a => zH (zY agg30 rfl (zA hN rfl) c (zM fld48_2 (zA hN rfl) (zN one9 (zA hN rfl) (o.cell rfl) ?_)))))
 rcases Bool.eq_false_or_eq_true ((tabAt (D.map DTab.t) ((cols.getD i default).ref)).isSome) with c | c
 ·
  have hT' := hT.keep0 (zQ hb)
  have hV' := hV.keep0 (zQ hb)
  refine zj ok12 (Table2T c (hT'.mono zx) hD hsz (hV'.mono (Nat.zero_le _) zx)) ⟨(zA hN rfl), ⟨(zA hN rfl), trivial⟩⟩ ?_
  rintro _ y ⟨x, r, rfl, s, q, t⟩
  have x := zQ x
  obtain ⟨hb, _⟩ := yE hb x
  have q := q.mono (base' := w.heap.size) zx
  have t := t.mono (base' := w.heap.size) zx
  refine zG (zA hN rfl) (zW (zA hN rfl) rfl (zW (zA hN rfl) rfl (op_alloc (cs := [(.string (bs [])), (.slice none 0 0), (.slice none 0 0)]) zero51 rfl ?_)))
  intro A B C F y z
  obtain ⟨hb, _⟩ := yE hb z
  have o := (o.keep0 x).keep0 z
  have q := q.keep0 z
  have t := t.keep0 z
  have x := y
  refine zZ size51 (zA hN rfl) (zA hN rfl) rfl (by simp only [yA, yB, yC, yD, q.one, t.one]; try rfl) y rfl ?_
  intro z y t
  have := t.size
  have o := o.keep t (sN o x)
  have q := q.keepX x t zz
  have hb := below_step1 hb t hb.size zx
  refine zD (zA hN rfl) (zB (a _ _ (zF fun _ a => wp_block (zF fun _ t => reg_split (hd := [_, _, _, _, _, _]) (tl := _) 6 mixed zy rfl rfl (any_tree (φ := phiV [(fun uz => uz = cv), (fun uz => uz = (.int .i64 ((i : Nat) : Int))), (fun uz => uz = (hiV cv i)), (fun uz => uz = (ptr p 0)), (fun uz => uz = (.string (bs (cols.getD i default).nm))), (fun _ => True)]) (G := fun w' => Bx w' p 48 [(.string (bs (cols.getD i default).nm)), (.int .i64 (cols.getD i default).kind), (.string (bs (cols.getD i default).ref))]) [5] zy zy zy zy zy hN (fun l x E h => h.keep0 E) o (ObRs9.cons ?_ (ObRs9.cons ?_ (ObRs9.cons ?_ (ObRs9.cons ?_ (ObRs9.cons ?_ (ObRs9.pass rfl (ObRs9.nil))))))) (by simp only [putsL_defers]) ?_)))))
  ·
   intro eA aA wA hNA hGA hbsA hdpA
   have z := (hbsA 1 rfl).trans (zL hN rfl e)
   refine zG (zC hNA rfl z) ?_
   exact obT_end rfl rfl
  ·
   intro eA aA wA hNA hGA hbsA hdpA
   have A := (hbsA 2 rfl).trans (zL hN rfl k)
   refine zG (zC hNA rfl A) ?_
   exact obT_end rfl rfl
  ·
   intro eA aA wA hNA hGA hbsA hdpA
   have B : Sl aA 22 cv := (hdpA 0 _ 22 zy rfl rfl).2 rfl
   have C : Sl aA 23 (.int .i64 ((i : Nat) : Int)) := (hdpA 1 _ 23 zy rfl rfl).2 rfl
   refine op_slice_hiC (m := i) slt32 (zC hNA rfl B) hcap (zC hNA rfl C) rfl zx ?_
   exact obT_end rfl rfl
  ·
   intro eA aA wA hNA hGA hbsA hdpA
   have F := (hbsA 7 rfl).trans (zU hN rfl)
   refine zM fld48_0 (zC hNA rfl F) ?_
   exact obT_end rfl rfl
  ·
   intro eA aA wA hNA hGA hbsA hdpA
   have H : Sl aA 25 (ptr p 0) := (hdpA 3 _ 25 zy rfl rfl).2 rfl
   refine zN one9 (zC hNA rfl H) (hGA.cell rfl) ?_
   exact obT_end rfl rfl
  refine kt_step (rs := [5]) zy (one_mem ?_)
  intro O I _ M K P J o_ ho_; obtain rfl := zE ho_
  obtain ⟨hb, _⟩ := yE hb I
  have O : Sl M 24 (hiV cv i) := (J 2 _ 24 zy rfl rfl).2 rfl
  have P : Sl M 26 (.string (bs (cols.getD i default).nm)) := (J 4 _ 26 zy rfl rfl).2 rfl
  have hch' := hch.keep0 (zQ hb)
  refine zj ok39 (findCol (L := ((cols.take i) : List PCol)) ((cols.getD i default).nm) (hch'.mono (Nat.zero_le _) zx)) ⟨(zC K rfl O), ⟨(zC K rfl P), ⟨rfl, trivial⟩⟩⟩ ?_
  rintro _ K ⟨J, rfl⟩
  have J := zQ J
  obtain ⟨hb, _⟩ := yE hb J
  have o := (o.keep0 I).keep0 J
  refine kt_end rfl o ?_
  intro S P Q K M O R
  have M := M.trans ((by simp only [putsL_defers] : _ = _).trans hd)
  obtain ⟨hb, _⟩ := yE hb P
  have o := o.keep0 P
  have q := ((q.keep0 I).keep0 J).keep0 P
  have y := ((y.keep0 I).keep0 J).keep0 P
  have I := (O 1 rfl).trans (zL hN rfl e)
  have J := (O 2 rfl).trans (zL hN rfl k)
  have P := (O 7 rfl).trans (zU hN rfl)
  have S := (O 8 rfl).trans (zU hN rfl)
  have U := (O 9 rfl).trans (zU hN rfl)
  have O : Sl Q 27 (.int .i64 (ixOf (fun d => decide (d.nm = (cols.getD i default).nm)) (cols.take i))) := (zE ((R 5 _ 27 rfl rfl).1 rfl)).symm
  refine split_end (from_seq (tl := [_, _]) zz zy rfl (op_geq (zC K rfl O) rfl (fun Q => ?_) (fun Q => ?_)))
  ·
   refine zD (zA K rfl) (zB (t _ _ (wp_cond_true (zA K rfl) (zF fun _ t => zH (zD rfl (zB (t _ _ (wp_ret (zb (zO ( (ret1 rfl M (zA K rfl) ⟨_, rfl, ?_⟩))))))))))))
   have O : colE (D.map DTab.t) cols i = 12 := colE_1 Q
   rw [O]; exact ⟨hb, rfl⟩
  refine zD (zA K rfl) (zB (t _ _ (wp_cond_false (zA K rfl) (zF fun _ t => zH (zM fld48_1 (zC K rfl P) (zN one3 (zA K rfl) (o.cell rfl) (op_neq (zA K rfl) rfl (fun R => ?_) (fun R => ?_))))))))
  ·
   refine zG (zA K rfl) (zS (j := 3) (dj := 33) (b := true) rfl rfl rfl (zA K rfl) (zM fld48_1 (zC K rfl P) (zS (j := 3) (dj := 33) (b := true) rfl rfl rfl (zA K rfl) (zN one3 (zA K rfl) (o.cell rfl) (zS (j := 3) (dj := 33) (b := true) rfl rfl rfl (zA K rfl) (op_neq (zA K rfl) rfl (fun W => ?_) (fun W => ?_)))))))
   ·
    refine zc (zA K rfl) (zA K rfl) (zD (zA K rfl) (zB (t _ _ (wp_cond_true (zA K rfl) (zF fun _ t => zH (zD rfl (zB (t _ _ (wp_ret (zb (zO ( (ret1 rfl M (zA K rfl) ⟨_, rfl, ?_⟩)))))))))))))
    have O : colE (D.map DTab.t) cols i = 11 := colE_2 Q ⟨R, W⟩
    rw [O]; exact ⟨hb, rfl⟩
   refine zc (zA K rfl) (zA K rfl) (zD (zA K rfl) (zB (t _ _ (wp_cond_false (zA K rfl) (zF fun _ t => zH (zM fld48_2 (zC K rfl P) (zN one9 (zA K rfl) (o.cell rfl) (op_seql (zA K rfl) rfl (fun X => ?_) (fun X => ?_)))))))))
   ·
    refine zD (zA K rfl) (zB (t _ _ (wp_cond_true (zA K rfl) (zF fun _ t => zH (zD rfl (zB (t _ _ (wp_ret (zb (zO ( (ret1 rfl M (zA K rfl) ⟨_, rfl, ?_⟩))))))))))))
    have O : colE (D.map DTab.t) cols i = 0 := colE_3 Q zx X
    rw [O]; exact ⟨hb, rfl⟩
   refine zD (zA K rfl) (zB (t _ _ (wp_cond_false (zA K rfl) (zF fun _ t => zF fun _ Z => zH (zG (zC K rfl J) (op_eql (zA K rfl) rfl (fun Y => ?_) (fun Y => ?_)))))))
   ·
    refine zD (zA K rfl) (zB (Z _ _ (wp_cond_true (zA K rfl) (wp_skip (t _ _ (wp_cond_true (zA K rfl) (zF fun _ t => zH (zD rfl (zB (t _ _ (wp_ret (zb (zO ( (ret1 rfl M (zA K rfl) ⟨_, rfl, ?_⟩)))))))))))))))
    have O : colE (D.map DTab.t) cols i = 14 := colE_4 Q zx X (.inl zx)
    rw [O]; exact ⟨hb, rfl⟩
   refine zD (zA K rfl) (zB (Z _ _ (wp_cond_false (zA K rfl) (zH (zG (zC K rfl I) (zG (zC K rfl J) (op_slice_hiC (m := i) slt32 (zA K rfl) hcap (zA K rfl) rfl zx ?_)))))))
   have hch' := hch.keep0 (zQ hb)
   refine zj ok74 (ContRef (hch'.mono (Nat.zero_le _) zx)) ⟨(zA K rfl), ⟨rfl, trivial⟩⟩ ?_
   rintro _ ab ⟨aa, rfl⟩
   have aa := zQ aa
   obtain ⟨hb, _⟩ := yE hb aa
   have q := q.keep0 aa
   obtain ⟨o, y⟩ := kb2 aa o y
   rcases Bool.eq_false_or_eq_true ((decide (0 ≤ ixOf (fun d : PCol => decide (d.ref ≠ [])) (cols.take i)))) with aa | aa
   ·
    rw [aa]
    refine zD (zA K rfl) (zB (t _ _ (wp_cond_true (zA K rfl) (zF fun _ t => zH (zD rfl (zB (t _ _ (wp_ret (zb (zO ( (ret1 rfl M (zA K rfl) ⟨_, rfl, ?_⟩))))))))))))
    have O : colE (D.map DTab.t) cols i = 14 := colE_4 Q zx X (.inr (of_decide_eq_true aa))
    rw [O]; exact ⟨hb, rfl⟩
   rw [aa]
   refine zD (zA K rfl) (zB (t _ _ (wp_cond_false (zA K rfl) (zF fun _ t => zH (zG (zC K rfl U) (op_not (zA K rfl) (zD (zA K rfl) (zB (t _ _ (wp_cond_false (zA K rfl) (zF fun _ t => reg_still mixed zy ?_)))))))))))
   intro ac ab
   obtain ⟨hb, _⟩ := yE hb ab
   have q := q.keep0 ab
   obtain ⟨o, y⟩ := kb2 ab o y
   refine st_step rfl (fun _ h9 => zM fld51_1 (zC K rfl S) h9) (st_step rfl (fun _ h9 => zN one32 (zA K rfl) (y.cell rfl) h9) (st_step rfl (fun _ h9 => op_len_rd Tryz.underlying32 (zA K rfl) q.rdw h9) ?_))
   by_cases ab : ((r.t.cols.length : Nat) : Int) = 0
   ·
    refine st_step rfl (fun _ h9 => op_cmp (b := true) (zA K rfl) rfl (b_eql (decide_eq_true ab)) h9) (st_step rfl (fun _ h9 => zG (zA K rfl) h9) (st_g_false (j := 4) (dj := 57) (b := false) rfl rfl rfl (zA K rfl) rfl rfl (st_g_false (j := 4) (dj := 57) (b := false) rfl rfl rfl (zA K rfl) rfl rfl (st_g_false (j := 4) (dj := 57) (b := false) rfl rfl rfl (zA K rfl) rfl rfl (st_g_false (j := 4) (dj := 57) (b := false) rfl rfl rfl (zA K rfl) rfl rfl (st_g_false (j := 4) (dj := 57) (b := false) rfl rfl rfl (zA K rfl) rfl rfl (st_g_false (j := 4) (dj := 57) (b := false) rfl rfl rfl (zA K rfl) rfl rfl (st_g_false (j := 4) (dj := 57) (b := false) rfl rfl rfl (zA K rfl) rfl rfl ?_))))))))
    refine st_g_false (j := 4) (dj := 57) (b := false) rfl rfl rfl (zA K rfl) rfl rfl (st_step rfl (fun _ h9 => zc (zA K rfl) rfl h9) (st_step rfl (fun _ h9 => zD (zA K rfl) h9) (st_nil (t _ _ (wp_cond_true (zA K rfl) (zF fun _ t => zH (zD rfl (zB (t _ _ (wp_ret (zb (zO ( (ret1 rfl M (zA K rfl) ⟨_, rfl, ?_⟩))))))))))))))
    have O : colE (D.map DTab.t) cols i = 11 := (colE_5 (T := (D.map DTab.t)) Q zx X (fun h => h.elim (fun h => Y zx) fun h => of_decide_eq_false aa h)).trans (by rw [s]; exact if_pos (.inl zx))
    rw [O]; exact ⟨hb, rfl⟩
   refine st_step rfl (fun _ h9 => op_cmp (b := false) (zA K rfl) rfl (b_eql (decide_eq_false ab)) h9) (st_step rfl (fun _ h9 => zG (zA K rfl) h9) (st_g_true (j := 4) (dj := 57) (b := false) rfl rfl rfl (zA K rfl) (st_step rfl (fun _ h9 => zM fld51_1 (zC K rfl S) h9) (st_g_true (j := 4) (dj := 57) (b := false) rfl rfl rfl (zA K rfl) (st_step rfl (fun _ h9 => zN one32 (zA K rfl) (y.cell rfl) h9) (st_g_true (j := 4) (dj := 57) (b := false) rfl rfl rfl (zA K rfl) (st_index_rd slt32 (zA K rfl) q.rdw rfl zx zx ?_)))))))
   intro ae ag ad af ac
   refine st_g_true (j := 4) (dj := 57) (b := false) rfl rfl rfl (zA K rfl) (st_step rfl (fun _ h9 => zM fld48_1 (zA K rfl) h9) (st_g_true (j := 4) (dj := 57) (b := false) rfl rfl rfl (zA K rfl) (st_step rfl (fun _ h9 => zN (v := (Value.int .i64 (r.t.cols.getD 0 default).kind)) one3 (zA K rfl) (ac 1 ((.int .i64 (r.t.cols.getD 0 default).kind)) zz ((el_pc (i := 0) zx zx) 1 ((.int .i64 (r.t.cols.getD 0 default).kind)) rfl)) h9) ?_)))
   refine st_g_true (j := 4) (dj := 57) (b := false) rfl rfl rfl (zA K rfl) (st_step rfl (fun _ h9 => zM fld48_1 (zC K rfl P) h9) (st_g_true (j := 4) (dj := 57) (b := false) rfl rfl rfl (zA K rfl) (st_step rfl (fun _ h9 => zN one3 (zA K rfl) (o.cell rfl) h9) (st_g_true (j := 4) (dj := 57) (b := false) rfl rfl rfl (zA K rfl) (st_step rfl (fun _ h9 => op_cmp (b := (decide ((r.t.cols.getD 0 default).kind ≠ (cols.getD i default).kind))) (zA K rfl) (zA K rfl) (b_neq rfl) h9) (st_step rfl (fun _ h9 => zd (zA K rfl) (zA K rfl) h9) (st_step rfl (fun _ h9 => zD (zA K rfl) h9) (st_nil (t _ _ (wp_cond_split (zA K rfl) (fun ac => ?_) (fun ac => ?_)))))))))))
   ·
    have ac := of_decide_eq_true ac
    refine zF fun _ t => zH (zD rfl (zB (t _ _ (wp_ret (zb (zO ( (ret1 rfl M (zA K rfl) ⟨_, rfl, ?_⟩))))))))
    have O : colE (D.map DTab.t) cols i = 11 := (colE_5 (T := (D.map DTab.t)) Q zx X (fun h => h.elim (fun h => Y zx) fun h => of_decide_eq_false aa h)).trans (by rw [s]; exact if_pos (.inr ac))
    rw [O]; exact ⟨hb, rfl⟩
   have ac := of_decide_eq_false ac
   refine wp_skip (a _ _ (zF fun _ a => zH (zD rfl (zB (a _ _ (wp_ret (ret1 rfl M (zA K rfl) ⟨_, rfl, ?_⟩)))))))
   have O : colE (D.map DTab.t) cols i = 0 := (colE_5 (T := (D.map DTab.t)) Q zx X (fun h => h.elim (fun h => Y zx) fun h => of_decide_eq_false aa h)).trans (by rw [s]; exact if_neg (fun h => h.elim (fun g => by omega) fun g => ac g))
   rw [O]; exact ⟨hb, rfl⟩
  refine zG (zA K rfl) (zR (j := 3) (dj := 33) (b := true) rfl rfl rfl (zA K rfl) rfl rfl ?_)
  refine zR (j := 3) (dj := 33) (b := true) rfl rfl rfl (zA K rfl) rfl rfl (zR (j := 3) (dj := 33) (b := true) rfl rfl rfl (zA K rfl) rfl rfl (zd (zA K rfl) rfl (zD (zA K rfl) (zB (t _ _ (wp_cond_false (zA K rfl) (zF fun _ t => zH (zM fld48_2 (zC K rfl P) (zN one9 (zA K rfl) (o.cell rfl) (op_seql (zA K rfl) rfl (fun X => ?_) (fun X => ?_)))))))))))
  ·
   refine zD (zA K rfl) (zB (t _ _ (wp_cond_true (zA K rfl) (zF fun _ t => zH (zD rfl (zB (t _ _ (wp_ret (zb (zO ( (ret1 rfl M (zA K rfl) ⟨_, rfl, ?_⟩))))))))))))
   have O : colE (D.map DTab.t) cols i = 0 := colE_3 Q zx X
   rw [O]; exact ⟨hb, rfl⟩
  refine zD (zA K rfl) (zB (t _ _ (wp_cond_false (zA K rfl) (zF fun _ t => zF fun _ Z => zH (zG (zC K rfl J) (op_eql (zA K rfl) rfl (fun Y => ?_) (fun Y => ?_)))))))
  ·
   refine zD (zA K rfl) (zB (Z _ _ (wp_cond_true (zA K rfl) (wp_skip (t _ _ (wp_cond_true (zA K rfl) (zF fun _ t => zH (zD rfl (zB (t _ _ (wp_ret (zb (zO ( (ret1 rfl M (zA K rfl) ⟨_, rfl, ?_⟩)))))))))))))))
   have O : colE (D.map DTab.t) cols i = 14 := colE_4 Q zx X (.inl zx)
   rw [O]; exact ⟨hb, rfl⟩
  refine zD (zA K rfl) (zB (Z _ _ (wp_cond_false (zA K rfl) (zH (zG (zC K rfl I) (zG (zC K rfl J) (op_slice_hiC (m := i) slt32 (zA K rfl) hcap (zA K rfl) rfl zx ?_)))))))
  have hch' := hch.keep0 (zQ hb)
  refine zj ok74 (ContRef (hch'.mono (Nat.zero_le _) zx)) ⟨(zA K rfl), ⟨rfl, trivial⟩⟩ ?_
  rintro _ J ⟨I, rfl⟩
  have I := zQ I
  obtain ⟨hb, _⟩ := yE hb I
  have q := q.keep0 I
  obtain ⟨o, y⟩ := kb2 I o y
  rcases Bool.eq_false_or_eq_true ((decide (0 ≤ ixOf (fun d : PCol => decide (d.ref ≠ [])) (cols.take i)))) with aa | aa
  ·
   rw [aa]
   refine zD (zA K rfl) (zB (t _ _ (wp_cond_true (zA K rfl) (zF fun _ t => zH (zD rfl (zB (t _ _ (wp_ret (zb (zO ( (ret1 rfl M (zA K rfl) ⟨_, rfl, ?_⟩))))))))))))
   have O : colE (D.map DTab.t) cols i = 14 := colE_4 Q zx X (.inr (of_decide_eq_true aa))
   rw [O]; exact ⟨hb, rfl⟩
  rw [aa]
  refine zD (zA K rfl) (zB (t _ _ (wp_cond_false (zA K rfl) (zF fun _ t => zH (zG (zC K rfl U) (op_not (zA K rfl) (zD (zA K rfl) (zB (t _ _ (wp_cond_false (zA K rfl) (zF fun _ t => reg_still mixed zy ?_)))))))))))
  intro J I
  obtain ⟨hb, _⟩ := yE hb I
  have q := q.keep0 I
  obtain ⟨o, y⟩ := kb2 I o y
  refine st_step rfl (fun _ h9 => zM fld51_1 (zC K rfl S) h9) (st_step rfl (fun _ h9 => zN one32 (zA K rfl) (y.cell rfl) h9) (st_step rfl (fun _ h9 => op_len_rd Tryz.underlying32 (zA K rfl) q.rdw h9) ?_))
  by_cases ab : ((r.t.cols.length : Nat) : Int) = 0
  ·
   refine st_step rfl (fun _ h9 => op_cmp (b := true) (zA K rfl) rfl (b_eql (decide_eq_true ab)) h9) (st_step rfl (fun _ h9 => zG (zA K rfl) h9) (st_g_false (j := 4) (dj := 57) (b := false) rfl rfl rfl (zA K rfl) rfl rfl (st_g_false (j := 4) (dj := 57) (b := false) rfl rfl rfl (zA K rfl) rfl rfl (st_g_false (j := 4) (dj := 57) (b := false) rfl rfl rfl (zA K rfl) rfl rfl (st_g_false (j := 4) (dj := 57) (b := false) rfl rfl rfl (zA K rfl) rfl rfl (st_g_false (j := 4) (dj := 57) (b := false) rfl rfl rfl (zA K rfl) rfl rfl (st_g_false (j := 4) (dj := 57) (b := false) rfl rfl rfl (zA K rfl) rfl rfl (st_g_false (j := 4) (dj := 57) (b := false) rfl rfl rfl (zA K rfl) rfl rfl ?_))))))))
   refine st_g_false (j := 4) (dj := 57) (b := false) rfl rfl rfl (zA K rfl) rfl rfl (st_step rfl (fun _ h9 => zc (zA K rfl) rfl h9) (st_step rfl (fun _ h9 => zD (zA K rfl) h9) (st_nil (t _ _ (wp_cond_true (zA K rfl) (zF fun _ t => zH (zD rfl (zB (t _ _ (wp_ret (zb (zO ( (ret1 rfl M (zA K rfl) ⟨_, rfl, ?_⟩))))))))))))))
   have O : colE (D.map DTab.t) cols i = 11 := (colE_5 (T := (D.map DTab.t)) Q zx X (fun h => h.elim (fun h => Y zx) fun h => of_decide_eq_false aa h)).trans (by rw [s]; exact if_pos (.inl zx))
   rw [O]; exact ⟨hb, rfl⟩
  refine st_step rfl (fun _ h9 => op_cmp (b := false) (zA K rfl) rfl (b_eql (decide_eq_false ab)) h9) (st_step rfl (fun _ h9 => zG (zA K rfl) h9) (st_g_true (j := 4) (dj := 57) (b := false) rfl rfl rfl (zA K rfl) (st_step rfl (fun _ h9 => zM fld51_1 (zC K rfl S) h9) (st_g_true (j := 4) (dj := 57) (b := false) rfl rfl rfl (zA K rfl) (st_step rfl (fun _ h9 => zN one32 (zA K rfl) (y.cell rfl) h9) (st_g_true (j := 4) (dj := 57) (b := false) rfl rfl rfl (zA K rfl) (st_index_rd slt32 (zA K rfl) q.rdw rfl zx zx ?_)))))))
  intro S I y J q
  refine st_g_true (j := 4) (dj := 57) (b := false) rfl rfl rfl (zA K rfl) (st_step rfl (fun _ h9 => zM fld48_1 (zA K rfl) h9) (st_g_true (j := 4) (dj := 57) (b := false) rfl rfl rfl (zA K rfl) (st_step rfl (fun _ h9 => zN (v := (Value.int .i64 (r.t.cols.getD 0 default).kind)) one3 (zA K rfl) (q 1 ((.int .i64 (r.t.cols.getD 0 default).kind)) zz ((el_pc (i := 0) zx zx) 1 ((.int .i64 (r.t.cols.getD 0 default).kind)) rfl)) h9) ?_)))
  refine st_g_true (j := 4) (dj := 57) (b := false) rfl rfl rfl (zA K rfl) (st_step rfl (fun _ h9 => zM fld48_1 (zC K rfl P) h9) (st_g_true (j := 4) (dj := 57) (b := false) rfl rfl rfl (zA K rfl) (st_step rfl (fun _ h9 => zN one3 (zA K rfl) (o.cell rfl) h9) (st_g_true (j := 4) (dj := 57) (b := false) rfl rfl rfl (zA K rfl) (st_step rfl (fun _ h9 => op_cmp (b := (decide ((r.t.cols.getD 0 default).kind ≠ (cols.getD i default).kind))) (zA K rfl) (zA K rfl) (b_neq rfl) h9) (st_step rfl (fun _ h9 => zd (zA K rfl) (zA K rfl) h9) (st_step rfl (fun _ h9 => zD (zA K rfl) h9) (st_nil (t _ _ (wp_cond_split (zA K rfl) (fun ac => ?_) (fun ac => ?_)))))))))))
  ·
   have ac := of_decide_eq_true ac
   refine zF fun _ t => zH (zD rfl (zB (t _ _ (wp_ret (zb (zO ( (ret1 rfl M (zA K rfl) ⟨_, rfl, ?_⟩))))))))
   have O : colE (D.map DTab.t) cols i = 11 := (colE_5 (T := (D.map DTab.t)) Q zx X (fun h => h.elim (fun h => Y zx) fun h => of_decide_eq_false aa h)).trans (by rw [s]; exact if_pos (.inr ac))
   rw [O]; exact ⟨hb, rfl⟩
  have ac := of_decide_eq_false ac
  refine wp_skip (a _ _ (zF fun _ a => zH (zD rfl (zB (a _ _ (wp_ret (ret1 rfl M (zA K rfl) ⟨_, rfl, ?_⟩)))))))
  have O : colE (D.map DTab.t) cols i = 0 := (colE_5 (T := (D.map DTab.t)) Q zx X (fun h => h.elim (fun h => Y zx) fun h => of_decide_eq_false aa h)).trans (by rw [s]; exact if_neg (fun h => h.elim (fun g => by omega) fun g => ac g))
  rw [O]; exact ⟨hb, rfl⟩
 have hT' := hT.keep0 (zQ hb)
 have hV' := hV.keep0 (zQ hb)
 refine zj ok12 (Table2F c (hT'.mono zx) hD hsz (hV'.mono (Nat.zero_le _) zx)) ⟨(zA hN rfl), ⟨(zA hN rfl), trivial⟩⟩ ?_
 rintro _ r ⟨q, rfl⟩
 have q := zQ q
 obtain ⟨hb, _⟩ := yE hb q
 refine zG (zA hN rfl) (zW (zA hN rfl) rfl (zW (zA hN rfl) rfl (op_alloc (cs := [(.string (bs [])), (.slice none 0 0), (.slice none 0 0)]) zero51 rfl ?_)))
 intro y K I J r s
 obtain ⟨hb, _⟩ := yE hb s
 have o := (o.keep0 q).keep0 s
 have q := r
 refine zZ size51 (zA hN rfl) (zA hN rfl) rfl rfl r rfl ?_
 intro y r s
 have := s.size
 have o := o.keep s (sN o q)
 have hb := below_step1 hb s hb.size zx
 refine zD (zA hN rfl) (zB (a _ _ (zF fun _ a => wp_block (zF fun _ t => reg_split (hd := [_, _, _, _, _, _]) (tl := _) 6 mixed zy rfl rfl (any_tree (φ := phiV [(fun uz => uz = cv), (fun uz => uz = (.int .i64 ((i : Nat) : Int))), (fun uz => uz = (hiV cv i)), (fun uz => uz = (ptr p 0)), (fun uz => uz = (.string (bs (cols.getD i default).nm))), (fun _ => True)]) (G := fun w' => Bx w' p 48 [(.string (bs (cols.getD i default).nm)), (.int .i64 (cols.getD i default).kind), (.string (bs (cols.getD i default).ref))]) [5] zy zy zy zy zy hN (fun l x E h => h.keep0 E) o (ObRs9.cons ?_ (ObRs9.cons ?_ (ObRs9.cons ?_ (ObRs9.cons ?_ (ObRs9.cons ?_ (ObRs9.pass rfl (ObRs9.nil))))))) (by simp only [putsL_defers]) ?_)))))
 ·
  intro eA aA wA hNA hGA hbsA hdpA
  have z := (hbsA 1 rfl).trans (zL hN rfl e)
  refine zG (zC hNA rfl z) ?_
  exact obT_end rfl rfl
 ·
  intro eA aA wA hNA hGA hbsA hdpA
  have A := (hbsA 2 rfl).trans (zL hN rfl k)
  refine zG (zC hNA rfl A) ?_
  exact obT_end rfl rfl
 ·
  intro eA aA wA hNA hGA hbsA hdpA
  have B : Sl aA 22 cv := (hdpA 0 _ 22 zy rfl rfl).2 rfl
  have C : Sl aA 23 (.int .i64 ((i : Nat) : Int)) := (hdpA 1 _ 23 zy rfl rfl).2 rfl
  refine op_slice_hiC (m := i) slt32 (zC hNA rfl B) hcap (zC hNA rfl C) rfl zx ?_
  exact obT_end rfl rfl
 ·
  intro eA aA wA hNA hGA hbsA hdpA
  have F := (hbsA 7 rfl).trans (zU hN rfl)
  refine zM fld48_0 (zC hNA rfl F) ?_
  exact obT_end rfl rfl
 ·
  intro eA aA wA hNA hGA hbsA hdpA
  have H : Sl aA 25 (ptr p 0) := (hdpA 3 _ 25 zy rfl rfl).2 rfl
  refine zN one9 (zC hNA rfl H) (hGA.cell rfl) ?_
  exact obT_end rfl rfl
 refine kt_step (rs := [5]) zy (one_mem ?_)
 intro s q _ p l r a o_ ho_; obtain rfl := zE ho_
 obtain ⟨hb, _⟩ := yE hb q
 have r : Sl p 24 (hiV cv i) := (a 2 _ 24 zy rfl rfl).2 rfl
 have s : Sl p 26 (.string (bs (cols.getD i default).nm)) := (a 4 _ 26 zy rfl rfl).2 rfl
 have hch' := hch.keep0 (zQ hb)
 refine zj ok39 (findCol (L := ((cols.take i) : List PCol)) ((cols.getD i default).nm) (hch'.mono (Nat.zero_le _) zx)) ⟨(zC l rfl r), ⟨(zC l rfl s), ⟨rfl, trivial⟩⟩⟩ ?_
 rintro _ l ⟨a, rfl⟩
 have a := zQ a
 obtain ⟨hb, _⟩ := yE hb a
 have o := (o.keep0 q).keep0 a
 refine kt_end rfl o ?_
 intro x q s a l p r
 have l := l.trans ((by simp only [putsL_defers] : _ = _).trans hd)
 obtain ⟨hb, _⟩ := yE hb q
 have o := o.keep0 q
 have q := (p 1 rfl).trans (zL hN rfl e)
 have e := (p 2 rfl).trans (zL hN rfl k)
 have k := (p 7 rfl).trans (zU hN rfl)
 have x := (p 9 rfl).trans (zU hN rfl)
 have p : Sl s 27 (.int .i64 (ixOf (fun d => decide (d.nm = (cols.getD i default).nm)) (cols.take i))) := (zE ((r 5 _ 27 rfl rfl).1 rfl)).symm
 refine split_end (from_seq (tl := [_, _]) zz zy rfl (op_geq (zC a rfl p) rfl (fun Q => ?_) (fun Q => ?_)))
 ·
  refine zD (zA a rfl) (zB (t _ _ (wp_cond_true (zA a rfl) (zF fun _ t => zH (zD rfl (zB (t _ _ (wp_ret (zb (zO ( (ret1 rfl l (zA a rfl) ⟨_, rfl, ?_⟩))))))))))))
  have O : colE (D.map DTab.t) cols i = 12 := colE_1 Q
  rw [O]; exact ⟨hb, rfl⟩
 refine zD (zA a rfl) (zB (t _ _ (wp_cond_false (zA a rfl) (zF fun _ t => zH (zM fld48_1 (zC a rfl k) (zN one3 (zA a rfl) (o.cell rfl) (op_neq (zA a rfl) rfl (fun R => ?_) (fun R => ?_))))))))
 ·
  refine zG (zA a rfl) (zS (j := 3) (dj := 33) (b := true) rfl rfl rfl (zA a rfl) (zM fld48_1 (zC a rfl k) (zS (j := 3) (dj := 33) (b := true) rfl rfl rfl (zA a rfl) (zN one3 (zA a rfl) (o.cell rfl) (zS (j := 3) (dj := 33) (b := true) rfl rfl rfl (zA a rfl) (op_neq (zA a rfl) rfl (fun W => ?_) (fun W => ?_)))))))
  ·
   refine zc (zA a rfl) (zA a rfl) (zD (zA a rfl) (zB (t _ _ (wp_cond_true (zA a rfl) (zF fun _ t => zH (zD rfl (zB (t _ _ (wp_ret (zb (zO ( (ret1 rfl l (zA a rfl) ⟨_, rfl, ?_⟩)))))))))))))
   have O : colE (D.map DTab.t) cols i = 11 := colE_2 Q ⟨R, W⟩
   rw [O]; exact ⟨hb, rfl⟩
  refine zc (zA a rfl) (zA a rfl) (zD (zA a rfl) (zB (t _ _ (wp_cond_false (zA a rfl) (zF fun _ t => zH (zM fld48_2 (zC a rfl k) (zN one9 (zA a rfl) (o.cell rfl) (op_seql (zA a rfl) rfl (fun X => ?_) (fun X => ?_)))))))))
  ·
   refine zD (zA a rfl) (zB (t _ _ (wp_cond_true (zA a rfl) (zF fun _ t => zH (zD rfl (zB (t _ _ (wp_ret (zb (zO ( (ret1 rfl l (zA a rfl) ⟨_, rfl, ?_⟩))))))))))))
   have O : colE (D.map DTab.t) cols i = 0 := colE_3 Q zx X
   rw [O]; exact ⟨hb, rfl⟩
  refine zD (zA a rfl) (zB (t _ _ (wp_cond_false (zA a rfl) (zF fun _ t => zF fun _ Z => zH (zG (zC a rfl e) (op_eql (zA a rfl) rfl (fun Y => ?_) (fun Y => ?_)))))))
  ·
   refine zD (zA a rfl) (zB (Z _ _ (wp_cond_true (zA a rfl) (wp_skip (t _ _ (wp_cond_true (zA a rfl) (zF fun _ t => zH (zD rfl (zB (t _ _ (wp_ret (zb (zO ( (ret1 rfl l (zA a rfl) ⟨_, rfl, ?_⟩)))))))))))))))
   have O : colE (D.map DTab.t) cols i = 14 := colE_4 Q zx X (.inl zx)
   rw [O]; exact ⟨hb, rfl⟩
  refine zD (zA a rfl) (zB (Z _ _ (wp_cond_false (zA a rfl) (zH (zG (zC a rfl q) (zG (zC a rfl e) (op_slice_hiC (m := i) slt32 (zA a rfl) hcap (zA a rfl) rfl zx ?_)))))))
  have hch' := hch.keep0 (zQ hb)
  refine zj ok74 (ContRef (hch'.mono (Nat.zero_le _) zx)) ⟨(zA a rfl), ⟨rfl, trivial⟩⟩ ?_
  rintro _ r ⟨p, rfl⟩
  have p := zQ p
  obtain ⟨hb, _⟩ := yE hb p
  rcases Bool.eq_false_or_eq_true ((decide (0 ≤ ixOf (fun d : PCol => decide (d.ref ≠ [])) (cols.take i)))) with aa | aa
  ·
   rw [aa]
   refine zD (zA a rfl) (zB (t _ _ (wp_cond_true (zA a rfl) (zF fun _ t => zH (zD rfl (zB (t _ _ (wp_ret (zb (zO ( (ret1 rfl l (zA a rfl) ⟨_, rfl, ?_⟩))))))))))))
   have O : colE (D.map DTab.t) cols i = 14 := colE_4 Q zx X (.inr (of_decide_eq_true aa))
   rw [O]; exact ⟨hb, rfl⟩
  rw [aa]
  refine zD (zA a rfl) (zB (t _ _ (wp_cond_false (zA a rfl) (zF fun _ t => zH ?_))))
  refine zG (zC a rfl x) (op_not (zA a rfl) (zD (zA a rfl) (zB (t _ _ (wp_cond_true (zA a rfl) (zF fun _ t => zH (zD rfl (zB (t _ _ (wp_ret (zb (zO ( (ret1 rfl l (zA a rfl) ⟨_, rfl, ?_⟩))))))))))))))
  have p : tabAt (D.map DTab.t) (cols.getD i default).ref = none := by cases hh : tabAt (D.map DTab.t) (cols.getD i default).ref with
    | none => rfl
    | some u => rw [hh] at c; cases c
  have O : colE (D.map DTab.t) cols i = 9 := (colE_5 (T := (D.map DTab.t)) Q zx X (fun h => h.elim (fun h => Y zx) fun h => of_decide_eq_false aa h)).trans (by rw [p])
  rw [O]; exact ⟨hb, rfl⟩
 refine zG (zA a rfl) (zR (j := 3) (dj := 33) (b := true) rfl rfl rfl (zA a rfl) rfl rfl ?_)
 refine zR (j := 3) (dj := 33) (b := true) rfl rfl rfl (zA a rfl) rfl rfl (zR (j := 3) (dj := 33) (b := true) rfl rfl rfl (zA a rfl) rfl rfl (zd (zA a rfl) rfl (zD (zA a rfl) (zB (t _ _ (wp_cond_false (zA a rfl) (zF fun _ t => zH (zM fld48_2 (zC a rfl k) (zN one9 (zA a rfl) (o.cell rfl) (op_seql (zA a rfl) rfl (fun X => ?_) (fun X => ?_)))))))))))
 ·
  refine zD (zA a rfl) (zB (t _ _ (wp_cond_true (zA a rfl) (zF fun _ t => zH (zD rfl (zB (t _ _ (wp_ret (zb (zO ( (ret1 rfl l (zA a rfl) ⟨_, rfl, ?_⟩))))))))))))
  have O : colE (D.map DTab.t) cols i = 0 := colE_3 Q zx X
  rw [O]; exact ⟨hb, rfl⟩
 refine zD (zA a rfl) (zB (t _ _ (wp_cond_false (zA a rfl) (zF fun _ t => zF fun _ Z => zH (zG (zC a rfl e) (op_eql (zA a rfl) rfl (fun Y => ?_) (fun Y => ?_)))))))
 ·
  refine zD (zA a rfl) (zB (Z _ _ (wp_cond_true (zA a rfl) (wp_skip (t _ _ (wp_cond_true (zA a rfl) (zF fun _ t => zH (zD rfl (zB (t _ _ (wp_ret (zb (zO ( (ret1 rfl l (zA a rfl) ⟨_, rfl, ?_⟩)))))))))))))))
  have O : colE (D.map DTab.t) cols i = 14 := colE_4 Q zx X (.inl zx)
  rw [O]; exact ⟨hb, rfl⟩
 refine zD (zA a rfl) (zB (Z _ _ (wp_cond_false (zA a rfl) (zH (zG (zC a rfl q) (zG (zC a rfl e) (op_slice_hiC (m := i) slt32 (zA a rfl) hcap (zA a rfl) rfl zx ?_)))))))
 have hch' := hch.keep0 (zQ hb)
 refine zj ok74 (ContRef (hch'.mono (Nat.zero_le _) zx)) ⟨(zA a rfl), ⟨rfl, trivial⟩⟩ ?_
 rintro _ k ⟨e, rfl⟩
 have e := zQ e
 obtain ⟨hb, _⟩ := yE hb e
 rcases Bool.eq_false_or_eq_true ((decide (0 ≤ ixOf (fun d : PCol => decide (d.ref ≠ [])) (cols.take i)))) with aa | aa
 ·
  rw [aa]
  refine zD (zA a rfl) (zB (t _ _ (wp_cond_true (zA a rfl) (zF fun _ t => zH (zD rfl (zB (t _ _ (wp_ret (zb (zO ( (ret1 rfl l (zA a rfl) ⟨_, rfl, ?_⟩))))))))))))
  have O : colE (D.map DTab.t) cols i = 14 := colE_4 Q zx X (.inr (of_decide_eq_true aa))
  rw [O]; exact ⟨hb, rfl⟩
 rw [aa]
 refine zD (zA a rfl) (zB (t _ _ (wp_cond_false (zA a rfl) (zF fun _ t => zH ?_))))
 refine zG (zC a rfl x) (op_not (zA a rfl) (zD (zA a rfl) (zB (t _ _ (wp_cond_true (zA a rfl) (zF fun _ t => zH (zD rfl (zB (t _ _ (wp_ret (zb (zO ( (ret1 rfl l (zA a rfl) ⟨_, rfl, ?_⟩))))))))))))))
 have p : tabAt (D.map DTab.t) (cols.getD i default).ref = none := by cases hh : tabAt (D.map DTab.t) (cols.getD i default).ref with
   | none => rfl
   | some u => rw [hh] at c; cases c
 have O : colE (D.map DTab.t) cols i = 9 := (colE_5 (T := (D.map DTab.t)) Q zx X (fun h => h.elim (fun h => Y zx) fun h => of_decide_eq_false aa h)).trans (by rw [p])
 rw [O]; exact ⟨hb, rfl⟩

theorem table_ret {tv vv : Value} {D : List DTab} {V : List DVw} {F FV : Nat → Prop} {base Bs : Nat} {s : XS} {w : World} (O : Own w base 51 3 tv D.length (D.flatMap cellsT)) (S : TabsR w base D F) (P : Own w base 68 15 vv V.length (V.flatMap cellsW)) (Q : VsIn w base V FV) (d1 : Dj (Bl vv) FV) (d2 : Dj (Bl tv) FV) (hD : D.length ≤ 1000000) (hsz : ∀ d ∈ D, d.t.cols.length ≤ 1000000 ∧ d.t.idx.length ≤ 1000000) (hVz : V.length ≤ 1000) (he : SFr w 0 Bs s) (hBs : Bs ≤ base) (hbw : base ≤ w.heap.size) : Ret Tryz.prog 23 #[(.agg #[tv, vv]), (.agg #[(.int .i64 s.f.kind), (.string (bs s.f.tb)), (.string (bs s.f.nm)), s.f.cv, s.f.gv, s.f.vv, s.f.iv, (.string (bs s.f.join)), s.f.ov, s.f.wv, s.f.rv, (.bool s.f.desc), s.nv])] w (fun v' w' => Gr w w' (Bl tv) ∧ ∃ (tv' : Value) (D' : List DTab) (F' : Nat → Prop), v' = .tuple #[.agg #[tv', vv], .int .i64 (tabE (D.map DTab.t) s.f.nm s.f.cols)] ∧ Own w' base 51 3 tv' D'.length (D'.flatMap cellsT) ∧ TabsR w' base D' F' ∧ D'.map DTab.t = (if (tabE (D.map DTab.t) s.f.nm s.f.cols) = 0 then (D.map DTab.t) ++ [⟨s.f.nm, s.f.cols, []⟩] else (D.map DTab.t))) := by
 obtain ⟨hfc, hfg, hfv, hfi, hfo, hfw, hfr⟩ := he.ff
 have hfn := he.inn
 obtain ⟨⟨b, g, c⟩, a⟩ := he.sm
 have hb := Gr.refl w (Bl tv)
 refine enter (N := 60) Tryz.func23 rfl rfl (by simp) fun a hN hd hA => ?_
 have b : a.tmps.getD 0 undef = (.agg #[tv, vv]) := hA 0 (by simp)
 have c : a.tmps.getD 1 undef = (.agg #[(.int .i64 s.f.kind), (.string (bs s.f.tb)), (.string (bs s.f.nm)), s.f.cv, s.f.gv, s.f.vv, s.f.iv, (.string (bs s.f.join)), s.f.ov, s.f.wv, s.f.rv, (.bool s.f.desc), s.nv]) := hA 1 (by simp)
 clear hA
 refine zF fun _ a => zH (op_box (cs := [tv, vv]) (zC hN rfl b) rfl ?_)
 intro m l o p b g
 have o : ¬ F l := fun hf => by have := (S.lt _ hf).2; omega
 obtain ⟨hb, _⟩ := yG hb g
 have S := S.kz g
 have Q := Q.kz g
 refine op_box (cs := [(.int .i64 s.f.kind), (.string (bs s.f.tb)), (.string (bs s.f.nm)), s.f.cv, s.f.gv, s.f.vv, s.f.iv, (.string (bs s.f.join)), s.f.ov, s.f.wv, s.f.rv, (.bool s.f.desc), s.nv]) (zC hN rfl c) rfl ?_
 intro u q t r c p
 obtain ⟨hb, _⟩ := yG hb p
 have S := S.kz p
 have Q := Q.kz p
 refine op_alloc (cs := [(.slice none 0 0), (.slice none 0 0)]) zero30 rfl ?_
 intro x u z y r t
 have x : ¬ F u := fun hf => by have := (S.lt _ hf).2; omega
 obtain ⟨hb, _⟩ := yG hb t
 have O := ((O.keep0 g).keep0 p).keep0 t
 have S := S.kz t
 have Q := Q.kz t
 have b := (b.keep0 p).keep0 t
 have c := c.keep0 t
 refine zD rfl (zB (a _ _ (zF fun _ a => wp_block (zF fun _ y => ?_))))
 refine zH (zM fld30_0 (zA hN rfl) (zN one27 (zA hN rfl) (b.cell rfl) (zM fld37_2 (zA hN rfl) (zN one9 (zA hN rfl) (c.cell rfl) (zj ok37 (findTable (L := (D : List DTab)) s.f.nm (O.rdw.mono (Nat.zero_le _) zx)) ⟨(zA hN rfl), ⟨(zA hN rfl), ⟨rfl, trivial⟩⟩⟩ ?_)))))
 rintro _ A ⟨z, rfl⟩
 have z := zQ z
 obtain ⟨hb, _⟩ := yG hb z
 have O := O.keep0 z
 have S := S.kz z
 have P := (((P.keep0 g).keep0 p).keep0 t).keep0 z
 have Q := Q.kz z
 have hfc := (((hfc.keep0 g).keep0 p).keep0 t).keep0 z
 have hfg := (((hfg.keep0 g).keep0 p).keep0 t).keep0 z
 have hfi := (((hfi.keep0 g).keep0 p).keep0 t).keep0 z
 have hfv := (((hfv.keep0 g).keep0 p).keep0 t).keep0 z
 have hfo := (((hfo.keep0 g).keep0 p).keep0 t).keep0 z
 have hfw := (((hfw.keep0 g).keep0 p).keep0 t).keep0 z
 have hfr := (((hfr.keep0 g).keep0 p).keep0 t).keep0 z
 have hfn := (((hfn.keep0 g).keep0 p).keep0 t).keep0 z
 obtain ⟨b, c, r⟩ := kb3 z b c r
 refine op_geq (zA hN rfl) rfl (fun g => ?_) (fun g => ?_)
 ·
  refine zD (zA hN rfl) (zB (y _ _ (wp_cond_true (zA hN rfl) (zF fun _ y => zH (zY agg30 rfl (zA hN rfl) b ?_)))))
  have p := r
  refine zZ size30 (zA hN rfl) (zA hN rfl) rfl (by simp only [yA, yB, yC, yD, O.one, P.one]; try rfl) r rfl ?_
  intro z r t
  have := t.size
  have O := O.keepX p t zz
  have S := S.keepG (Gr.of t) (Dj.one x)
  have hb := hb.step1 t zx
  refine zD rfl (zB (y _ _ (wp_ret (zb (zO ( (retD rfl hd (zA hN rfl) agg30 rfl r (zA hN rfl) ⟨_, rfl, ?_⟩)))))))
  have t : (tabE (D.map DTab.t) s.f.nm s.f.cols) = 12 := if_pos (tab_is g)
  rw [t]; exact ⟨hb, _, D, F, rfl, O, S, (if_neg (by first | decide | exact z)).symm⟩
 refine zD (zA hN rfl) (zB (y _ _ (wp_cond_false (zA hN rfl) (zF fun _ y => zH (zM fld30_0 (zA hN rfl) (zN one27 (zA hN rfl) (b.cell rfl) (op_len_rd Tryz.underlying27 (zA hN rfl) O.rdw (op_geq (zA hN rfl) rfl (fun B => ?_) (fun B => ?_)))))))))
 ·
  refine zD (zA hN rfl) (zB (y _ _ (wp_cond_true (zA hN rfl) (zF fun _ y => zH (zY agg30 rfl (zA hN rfl) b ?_)))))
  have p := r
  refine zZ size30 (zA hN rfl) (zA hN rfl) rfl (by simp only [yA, yB, yC, yD, O.one, P.one]; try rfl) r rfl ?_
  intro C r B
  have := B.size
  have O := O.keepX p B zz
  have S := S.keepG (Gr.of B) (Dj.one x)
  have hb := hb.step1 B zx
  refine zD rfl (zB (y _ _ (wp_ret (zb (zO ( (retD rfl hd (zA hN rfl) agg30 rfl r (zA hN rfl) ⟨_, rfl, ?_⟩)))))))
  have t : (tabE (D.map DTab.t) s.f.nm s.f.cols) = 25 := by unfold tabE; rw [if_neg (by rw [tab_isnt g]; decide), if_pos (by rw [List.length_map]; omega)]
  rw [t]; exact ⟨hb, _, D, F, rfl, O, S, (if_neg (by first | decide | exact z)).symm⟩
 refine zD (zA hN rfl) (zB (y _ _ (wp_cond_false (zA hN rfl) (zF fun _ y => zF fun _ B => zH (zM fld37_3 (zA hN rfl) (zN one32 (zA hN rfl) (c.cell rfl) (op_len_rd Tryz.underlying32 (zA hN rfl) hfc (op_eql (zA hN rfl) rfl (fun C => ?_) (fun C => ?_)))))))))
 ·
  refine zD (zA hN rfl) (zB (B _ _ (wp_cond_true (zA hN rfl) (wp_skip (y _ _ (wp_cond_true (zA hN rfl) (zF fun _ y => zH (zY agg30 rfl (zA hN rfl) b ?_))))))))
  have p := r
  refine zZ size30 (zA hN rfl) (zA hN rfl) rfl (by simp only [yA, yB, yC, yD, O.one, P.one]; try rfl) r rfl ?_
  intro H r C
  have := C.size
  have O := O.keepX p C zz
  have S := S.keepG (Gr.of C) (Dj.one x)
  have hb := hb.step1 C zx
  refine zD rfl (zB (y _ _ (wp_ret (zb (zO ( (retD rfl hd (zA hN rfl) agg30 rfl r (zA hN rfl) ⟨_, rfl, ?_⟩)))))))
  have t : (tabE (D.map DTab.t) s.f.nm s.f.cols) = 7 := by unfold tabE; rw [if_neg (by rw [tab_isnt g]; decide), if_neg (by rw [List.length_map]; omega), if_pos zx]
  rw [t]; exact ⟨hb, _, D, F, rfl, O, S, (if_neg (by first | decide | exact z)).symm⟩
 refine zD (zA hN rfl) (zB (B _ _ (wp_cond_false (zA hN rfl) (zH (zM fld37_3 (zA hN rfl) (zN one32 (zA hN rfl) (c.cell rfl) (op_len_rd Tryz.underlying32 (zA hN rfl) hfc (op_gtr (zA hN rfl) rfl (fun C => ?_) (fun C => ?_)))))))))
 ·
  refine zD (zA hN rfl) (zB (y _ _ (wp_cond_true (zA hN rfl) (zF fun _ y => zH (zY agg30 rfl (zA hN rfl) b ?_)))))
  have p := r
  refine zZ size30 (zA hN rfl) (zA hN rfl) rfl (by simp only [yA, yB, yC, yD, O.one, P.one]; try rfl) r rfl ?_
  intro H r C
  have := C.size
  have O := O.keepX p C zz
  have S := S.keepG (Gr.of C) (Dj.one x)
  have hb := hb.step1 C zx
  refine zD rfl (zB (y _ _ (wp_ret (zb (zO ( (retD rfl hd (zA hN rfl) agg30 rfl r (zA hN rfl) ⟨_, rfl, ?_⟩)))))))
  have t : (tabE (D.map DTab.t) s.f.nm s.f.cols) = 7 := by unfold tabE; rw [if_neg (by rw [tab_isnt g]; decide), if_neg (by rw [List.length_map]; omega), if_pos zx]
  rw [t]; exact ⟨hb, _, D, F, rfl, O, S, (if_neg (by first | decide | exact z)).symm⟩
 refine zD (zA hN rfl) (zB ?_)
 refine y _ _ (wp_cond_false (zA hN rfl) (wp_skip (a _ _ (zF fun _ a => zF fun _ y => zH (zM fld37_3 (zA hN rfl) (zN one32 (zA hN rfl) (c.cell rfl) (op_len_rd Tryz.underlying32 (zA hN rfl) hfc (zG rfl (zB (y _ _ (wp_block (loop_m (fun mz_ az_ w' => ∃ (i : Nat), mz_ = s.f.cols.length - i ∧ (Sl az_ 2 (ptr l 0)) ∧ (Sl az_ 3 (ptr q 0)) ∧ (Sl az_ 4 (ptr u 0)) ∧ (Sl az_ 34 (.int .i64 ((s.f.cols.length : Nat) : Int))) ∧ (Sl az_ 35 (.int .i64 ((i : Nat) : Int))) ∧ (i ≤ s.f.cols.length) ∧ (∀ j, j < i → colE (D.map DTab.t) s.f.cols j = 0) ∧ (Gr w w' (Bl tv)) ∧ (A.heap.size ≤ w'.heap.size) ∧ (Own w' base 51 3 tv D.length (D.flatMap cellsT)) ∧ (TabsR w' base D F) ∧ (Own w' base 68 15 vv V.length (V.flatMap cellsW)) ∧ (VsIn w' base V FV) ∧ (RdC w' 0 Bs 3 s.f.cv s.f.cols.length (s.f.cols.flatMap cellsC)) ∧ (RdC w' 0 Bs 1 s.f.gv s.f.tags.length (s.f.tags.map u16v)) ∧ (RdC w' 0 Bs 3 s.f.iv s.f.items.length (s.f.items.flatMap cellsI)) ∧ (XsFr w' 0 Bs s.f.vv s.f.vals) ∧ (XsFr w' 0 Bs s.f.ov s.f.on) ∧ (XsFr w' 0 Bs s.f.wv s.f.wh) ∧ (XsFr w' 0 Bs s.f.rv s.f.ord) ∧ (SsFr w' 0 Bs s.nv s.inner) ∧ (Bx w' l 30 [tv, vv]) ∧ (Bx w' q 37 [(.int .i64 s.f.kind), (.string (bs s.f.tb)), (.string (bs s.f.nm)), s.f.cv, s.f.gv, s.f.vv, s.f.iv, (.string (bs s.f.join)), s.f.ov, s.f.wv, s.f.rv, (.bool s.f.desc), s.nv]) ∧ (Bx w' u 30 [(.slice none 0 0), (.slice none 0 0)])) _ hN hd ⟨0, rfl, (zU hN rfl), (zU hN rfl), (zU hN rfl), (zU hN rfl), (zU hN rfl), (Nat.zero_le _), (fun _ h => absurd h (Nat.not_lt_zero _)), hb, (Nat.le_refl _), O, S, P, Q, hfc, hfg, hfi, hfv, hfo, hfw, hfr, hfn, b, c, r⟩ ?_))))))))))))
 rintro _ T M u I ⟨i, rfl, A, C, H, K, J, hi, hall, hb, R, O, S, P, Q, hfc, hfg, hfi, hfv, hfo, hfw, hfr, hfn, b, c, r⟩
 have := hb.size
 refine zF fun _ y => zH (op_lss (zC u rfl J) (zC u rfl K) (fun M => ?_) (fun M => ?_))
 ·
  refine zB (y _ _ (zF fun _ y => wp_cond_true (zA u rfl) (wp_skip (y _ _ (zF fun _ y => wp_block (zF fun _ B => zH (zG (zC u rfl J) (zD (zA u rfl) (zB (B _ _ (zF fun _ B => ?_)))))))))))
  refine zH (zY agg30 rfl (zC u rfl A) b (zM fld37_3 (zC u rfl C) (zN one32 (zA u rfl) (c.cell rfl) (zG (zA u rfl) (zj ok52 (col_ret (S.rd O) hD hsz ((Q.fr hVz P).mono (Nat.zero_le _) (Nat.le_refl _)) (hfc.mono (Nat.zero_le _) zx) zx) ⟨(zA u rfl), ⟨(zA u rfl), ⟨(zA u rfl), trivial⟩⟩⟩ ?_)))))
  rintro _ R ⟨M, rfl⟩
  have M := zQ M
  obtain ⟨hb, _⟩ := yG hb M
  have O := O.keep0 M
  have S := S.kz M
  have P := P.keep0 M
  have Q := Q.kz M
  have hfc := hfc.keep0 M
  have hfg := hfg.keep0 M
  have hfi := hfi.keep0 M
  have hfv := hfv.keep0 M
  have hfo := hfo.keep0 M
  have hfw := hfw.keep0 M
  have hfr := hfr.keep0 M
  have hfn := hfn.keep0 M
  obtain ⟨b, c, r⟩ := kb3 M b c r
  refine zD (zA u rfl) (zB (B _ _ (zF fun _ B => zH (zG (zA u rfl) (op_neq (zA u rfl) rfl (fun z => ?_) (fun z => ?_))))))
  ·
   refine zB (B _ _ (wp_cond_true (zA u rfl) (zF fun _ B => zH (zY agg30 rfl (zC u rfl A) b (zG (zA u rfl) ?_)))))
   have p := r
   refine zZ size30 (zC u rfl H) (zA u rfl) rfl (by simp only [yA, yB, yC, yD, O.one, P.one]; try rfl) r rfl ?_
   intro R r M
   have := M.size
   have O := O.keepX p M zz
   have S := S.keepG (Gr.of M) (Dj.one x)
   have hb := hb.step1 M zx
   refine zD (zA u rfl) (zB (B _ _ (wp_ret (zb (zO (zO (zb (zO ( (retD rfl I (zC u rfl H) agg30 rfl r (zA u rfl) ⟨_, rfl, ?_⟩))))))))))
   have t : (tabE (D.map DTab.t) s.f.nm s.f.cols) = (colE (D.map DTab.t) s.f.cols i) := tabE_hit (tab_isnt g) (by rw [List.length_map]; omega) zx zx hall z
   rw [t]; exact ⟨hb, _, D, F, rfl, O, S, (if_neg (by first | decide | exact z)).symm⟩
  refine zB (B _ _ (wp_cond_false (zA u rfl) (wp_skip (y _ _ (zH (op_add (zC u rfl J) rfl (add64 zx) (zG (zA u rfl) (zB ?_))))))))
  -- round 14F 20F 26F 30F 36T 44F
  exact zg _ u I ⟨(i + 1), rfl, (zL u rfl A), (zL u rfl C), (zL u rfl H), (zL u rfl K), (zU u rfl).trans (congrArg (Value.int .i64) zx), zx, (all_next hall z), hb, zx, O, S, P, Q, hfc, hfg, hfi, hfv, hfo, hfw, hfr, hfn, b, c, r⟩ zx
 refine zB (y _ _ (zF fun _ y => wp_cond_false (zA u rfl) (wp_exit (then_exit (then_exit (blk_hit (a _ _ (zF fun _ a => reg_split (hd := [_, _, _, _, _, _, _, _, _, _]) (tl := _) 10 mixed zy rfl rfl (any_tree (φ := phiV [(fun uz => uz = (ptr l 0)), (fun uz => uz = tv), (fun uz => uz = (ptr q 2)), (fun uz => uz = (.string (bs s.f.nm))), (fun uz => uz = (ptr q 3)), (fun uz => uz = s.f.cv), (fun _ => True), (fun _ => True), (fun _ => True), (fun _ => True)]) (G := fun w' => Bx w' l 30 [tv, vv] ∧ Bx w' q 37 [(.int .i64 s.f.kind), (.string (bs s.f.tb)), (.string (bs s.f.nm)), s.f.cv, s.f.gv, s.f.vv, s.f.iv, (.string (bs s.f.join)), s.f.ov, s.f.wv, s.f.rv, (.bool s.f.desc), s.nv]) [6, 7, 8, 9] zy zy zy zy zy u (fun m J E h => by obtain ⟨z, B⟩ := h; exact ⟨z.keep0 E, B.keep0 E⟩) ⟨b, c⟩ (ObRs9.cons ?_ (ObRs9.cons ?_ (ObRs9.cons ?_ (ObRs9.cons ?_ (ObRs9.cons ?_ (ObRs9.cons ?_ (ObRs9.pass rfl (ObRs9.pass rfl (ObRs9.pass rfl (ObRs9.pass rfl (ObRs9.nil))))))))))) (by simp only [putsL_defers]) ?_)))))))))
 ·
  intro eA aA wA hNA hGA hbsA hdpA
  have m := (hbsA 2 rfl).trans (zL u rfl A)
  refine zM fld30_0 (zC hNA rfl m) ?_
  exact obT_end rfl rfl
 ·
  intro eA aA wA hNA hGA hbsA hdpA
  have m : Sl aA 48 (ptr l 0) := (hdpA 0 _ 48 zy rfl rfl).2 rfl
  obtain ⟨b, c⟩ := hGA
  refine zN one27 (zC hNA rfl m) (b.cell rfl) ?_
  exact obT_end rfl rfl
 ·
  intro eA aA wA hNA hGA hbsA hdpA
  have l := (hbsA 3 rfl).trans (zL u rfl C)
  refine zM fld37_2 (zC hNA rfl l) ?_
  exact obT_end rfl rfl
 ·
  intro eA aA wA hNA hGA hbsA hdpA
  have m : Sl aA 50 (ptr q 2) := (hdpA 2 _ 50 zy rfl rfl).2 rfl
  obtain ⟨b, c⟩ := hGA
  refine zN one9 (zC hNA rfl m) (c.cell rfl) ?_
  exact obT_end rfl rfl
 ·
  intro eA aA wA hNA hGA hbsA hdpA
  have l := (hbsA 3 rfl).trans (zL u rfl C)
  refine zM fld37_3 (zC hNA rfl l) ?_
  exact obT_end rfl rfl
 ·
  intro eA aA wA hNA hGA hbsA hdpA
  have l : Sl aA 52 (ptr q 3) := (hdpA 4 _ 52 zy rfl rfl).2 rfl
  obtain ⟨b, c⟩ := hGA
  refine zN one32 (zC hNA rfl l) (c.cell rfl) ?_
  exact obT_end rfl rfl
 refine kt_step (rs := [6]) zy (one_mem ?_)
 intro B l _ y q z m o_ ho_; obtain rfl := zE ho_
 obtain ⟨hb, _⟩ := yG hb l
 have S := S.kz l
 have hfc := hfc.keep0 l
 have z : Sl y 53 s.f.cv := (m 5 _ 53 zy rfl rfl).2 rfl
 refine zj ok48 (CloneC s.f.cols _ _ (by first | assumption | omega | (simp only [List.length_append, List.length_cons, List.length_nil, List.length_drop, List.length_take]; omega) | (dsimp only; omega) | decide | (simp [keyV, be8_len]; done)) (hfc.mono (Nat.zero_le _) zx)) ⟨(zC q rfl z), trivial⟩ ?_
 rintro q z ⟨y, m⟩
 have y := zQ y
 obtain ⟨hb, _⟩ := yG hb y
 have S := S.kz y
 have b := (b.keep0 l).keep0 y
 have c := (c.keep0 l).keep0 y
 have m := m.mono (base' := w.heap.size) zx
 refine kt_end rfl ⟨b, c⟩ (kt_step (rs := [7]) zy (one_mem ?_))
 intro M z _ B C K J o_ ho_; obtain rfl := zE ho_
 obtain ⟨hb, _⟩ := yG hb z
 have S := S.kz z
 have m := m.keep0 z
 obtain ⟨b, c⟩ := kb2 z b c
 have K : Sl B 51 (.string (bs s.f.nm)) := (J 3 _ 51 zy rfl rfl).2 rfl
 have M : Sl B 54 q := (zE ((J 6 _ 54 zy rfl rfl).1 rfl)).symm
 refine zf (pv := [(0, (.string (bs s.f.nm))), (1, q)]) (v := (Value.agg #[(.string (bs s.f.nm)), q, (.slice none 0 0)])) ⟨rfl, (zC C rfl K), ⟨rfl, (zC C rfl M), trivial⟩⟩ (by obtain ⟨_, _, _, rfl⟩ := m.sl; kernel_rfl) (kt_end rfl ⟨b, c⟩ (kt_step (rs := [8]) zy (one_mem ?_)))
 intro R B _ J K M C o_ ho_; obtain rfl := zE ho_
 obtain ⟨hb, _⟩ := yG hb B
 have S := S.kz B
 have m := m.keep0 B
 have M : Sl J 55 (.agg #[(.string (bs s.f.nm)), q, (.slice none 0 0)]) := (zE ((C 7 _ 55 zy rfl rfl).1 rfl)).symm
 refine op_bslice (e := 51) (pv := [(0, (.agg #[(.string (bs s.f.nm)), q, (.slice none 0 0)]))]) (cs := [(.string (bs s.f.nm)), q, (.slice none 0 0)]) ⟨rfl, (zC K rfl M), trivial⟩ (by obtain ⟨_, _, _, rfl⟩ := m.sl; kernel_rfl) ?_
 intro M K T R J C
 obtain ⟨hb, _⟩ := yG hb C
 have S := S.kz C
 have b := (b.keep0 B).keep0 C
 have c := (c.keep0 B).keep0 C
 refine kt_end rfl ⟨b, c⟩ (kt_step (rs := [9]) zy (one_mem ?_))
 intro X M _ R U W T o_ ho_; obtain rfl := zE ho_
 obtain ⟨hb, _⟩ := yG hb M
 have O := (((((O.keep0 l).keep0 y).keep0 z).keep0 B).keep0 C).keep0 M
 have S := S.kz M
 have m := (m.keep0 C).keep0 M
 have J := J.keep0 M
 have W : Sl R 49 tv := (T 1 _ 49 zy rfl rfl).2 rfl
 have X : Sl R 56 (.slice (some ⟨K, 0, none⟩) 1 1) := (zE ((T 8 _ 56 zy rfl rfl).1 rfl)).symm
 have K := O
 refine op_append slt27 (zC U rfl W) K (zC U rfl X) (Src.ofRd Tryz.underlying27 zz (RdC.ofBx (sz := 3) (n := 1) J rfl zz) (by simp only [yA, yB, yC, yD, m.one]; try rfl)) (by unfold maxLen; omega) zx (by first | exact Nat.le_trans (by assumption) hb.size | (have := hb.size; omega)) ?_
 intro T U J R W
 have := R.size
 have S := S.keepG (Gr.of R) (S.notOwn K zz zz).symm
 have b := (b.keep0 M).keepO K R zz
 have c := (c.keep0 M).keepO K R zz
 have hb := hb.stepL R (fun k _ h => h)
 have J : Own U base 51 3 T (D ++ [(DTab.mk ⟨s.f.nm, s.f.cols, []⟩ q (.slice none 0 0))]).length (((D ++ [(DTab.mk ⟨s.f.nm, s.f.cols, []⟩ q (.slice none 0 0))])).flatMap cellsT) := by exact J.cast (by simp) (by simp [cellsT])
 refine kt_end rfl ⟨b, c⟩ ?_
 intro aa U Y c W X Z
 have W := W.trans ((by simp only [putsL_defers] : _ = _).trans I)
 obtain ⟨hb, _⟩ := yG hb U
 have b := b.keep0 U
 have J := J.keep0 U
 have I := (X 2 rfl).trans (zL u rfl A)
 have A := (X 4 rfl).trans (zL u rfl H)
 have u : Sl Y 57 T := (zE ((Z 9 _ 57 rfl rfl).1 rfl)).symm
 refine split_end (from_seq (tl := [_, _]) zz zy rfl (zM fld30_0 (zC c rfl I) ?_))
 have H := b
 refine za (vs := [T]) (cs' := [T, vv]) size27 (zA c rfl) (zC c rfl u) J.cl rfl (by simp only [yA, yB, yC, yD, J.one]; try rfl) b (zI rfl) rfl ?_
 intro T b u
 have := u.size
 have P := ((((((((P.keep0 l).keep0 y).keep0 z).keep0 B).keep0 C).keep0 M).keepT K R zz).keep0 U).keepX H u zz
 have r := ((((((((r.keep0 l).keep0 y).keep0 z).keep0 B).keep0 C).keep0 M).keepO K R zz).keep0 U).keep u sB
 have J := J.keepX H u zz
 have hb := hb.step1 u zx
 refine zB (a _ _ (zF fun _ a => zH (zY agg30 rfl (zC c rfl I) b ?_)))
 have p := r
 refine zZ size30 (zC c rfl A) (zA c rfl) rfl (by simp only [yA, yB, yC, yD, J.one, P.one]; try rfl) r rfl ?_
 intro l r b
 have := b.size
 have S := ((S.kz U).keepG (Gr.of u) (Dj.one o)).keepG (Gr.of b) (Dj.one x)
 have m := (((m.keepT K R zz).keep0 U).keepX H u zz).keepX p b zz
 have J := J.keepX p b zz
 have hb := hb.step1 b zx
 refine zD rfl (zB (a _ _ (wp_ret (retD rfl W (zC c rfl A) agg30 rfl r (zA c rfl) ⟨_, rfl, ?_⟩))))
 have t : (tabE (D.map DTab.t) s.f.nm s.f.cols) = 0 := tabE_ok (tab_isnt g) (by rw [List.length_map]; omega) zx zx hall
 rw [t]; exact ⟨hb, _, D ++ [(DTab.mk ⟨s.f.nm, s.f.cols, []⟩ q (.slice none 0 0))], _, rfl, J, S.snoc (d := (DTab.mk ⟨s.f.nm, s.f.cols, []⟩ q (.slice none 0 0))) (m.mono hbw) (Own.nil _ _ _ _), by rw [if_pos rfl, List.map_append]; rfl⟩

theorem isNaN16_ret (m : UInt16) (w : World) : Ret Tryz.prog 110 #[(.int .u16 (m.toNat : Int))] w (fun v' w' => v' = .bool false ∧ w' = w) := by
 refine enter (N := 6) Tryz.func110 rfl rfl (by simp) fun a hN hd hA => ?_
 have b : a.tmps.getD 0 undef = (.int .u16 (m.toNat : Int)) := hA 0 (by simp)
 clear hA
 refine zF fun _ a => zH (zD rfl (zB (a _ _ (zF fun _ a => zH (zG (zC hN rfl b) (zG (zC hN rfl b) (op_neq (zA hN rfl) (zA hN rfl) (fun c => ?_) (fun c => ?_))))))))
 ·
  refine zD (zA hN rfl) (zB (a _ _ (wp_ret (ret1 rfl hd (zA hN rfl) ⟨_, rfl, ?_⟩))))
  exact (c rfl).elim
 refine zD (zA hN rfl) (zB (a _ _ (wp_ret (ret1 rfl hd (zA hN rfl) ⟨_, rfl, ?_⟩))))
 exact ⟨rfl, rfl⟩

theorem Less16_ret (x y : UInt16) (w : World) : Ret Tryz.prog 100 #[(.int .u16 (x.toNat : Int)), (.int .u16 (y.toNat : Int))] w (fun v' w' => v' = .bool (ltT x y) ∧ w' = w) := by
 refine enter (N := 17) Tryz.func100 rfl rfl (by simp) fun a hN hd hA => ?_
 have c : a.tmps.getD 0 undef = (.int .u16 (x.toNat : Int)) := hA 0 (by simp)
 have e : a.tmps.getD 1 undef = (.int .u16 (y.toNat : Int)) := hA 1 (by simp)
 clear hA
 refine zF fun _ a => zH ?_
 refine zD rfl (zB (a _ _ (zF fun _ a => zH (zG (zC hN rfl c) (ze (vs := [(.int .u16 (x.toNat : Int))]) ok110 ⟨(zA hN rfl), trivial⟩ (Ret.flip (isNaN16_ret x _)) ?_)))))
 rintro _ _ ⟨rfl, rfl⟩
 refine zG (zA hN rfl) (zR (j := 2) (dj := 7) (b := true) rfl rfl rfl (zA hN rfl) rfl rfl ?_)
 refine zR (j := 2) (dj := 7) (b := true) rfl rfl rfl (zA hN rfl) rfl rfl (zR (j := 2) (dj := 7) (b := true) rfl rfl rfl (zA hN rfl) rfl rfl (zd (zA hN rfl) rfl (zG (zA hN rfl) (zS (j := 7) (dj := 12) (b := false) rfl rfl rfl (zA hN rfl) (zG (zC hN rfl c) (zS (j := 7) (dj := 12) (b := false) rfl rfl rfl (zA hN rfl) (zG (zC hN rfl e) (zS (j := 7) (dj := 12) (b := false) rfl rfl rfl (zA hN rfl) (op_lss (zA hN rfl) (zA hN rfl) (fun g => ?_) (fun g => ?_))))))))))
 ·
  refine zd (zA hN rfl) (zA hN rfl) (zD (zA hN rfl) (zB (a _ _ (wp_ret (ret1 rfl hd (zA hN rfl) ⟨_, rfl, ?_⟩)))))
  exact ⟨congrArg Value.bool (ltT_t g).symm, rfl⟩
 refine zd (zA hN rfl) (zA hN rfl) (zD (zA hN rfl) (zB (a _ _ (wp_ret (ret1 rfl hd (zA hN rfl) ⟨_, rfl, ?_⟩)))))
 exact ⟨congrArg Value.bool (ltT_f g).symm, rfl⟩
open Go.Sort (insertionSort insOuter insInner swp siftDown heapSort heapBuild heapPop scanUp scanDown partition partLoop partitionEqual partEqLoop scanSorted partialIns bitsLen partialInsertionSort shiftDown shiftUp SortedIn reverseRange reverseLoop fixDown fixUp)
theorem insSort_ret (d : Ar) (v : Value) (n base : Nat) (a b : Nat) (w : World) (hd : d.size = n) (hn : n ≤ 4000000000000000000) (O : Own w base 56 1 v n (d.toList.map u16v)) (hab : a ≤ b) (hbn : b ≤ n) : Ret Tryz.prog 94 #[v, (.int .i64 ((a : Nat) : Int)), (.int .i64 ((b : Nat) : Int))] w (fun v' w' => w.grownBy w' v.ownBlock ∧ v' = .tuple #[] ∧ Own w' base 56 1 v n ((insertionSort ltT d a b).toList.map u16v)) := by
 have hb := grown_refl w v.ownBlock
 refine enter (N := 49) Tryz.func94 rfl rfl (by simp) fun c hN hd hA => ?_
 have g : c.tmps.getD 0 undef = v := hA 0 (by simp)
 have k : c.tmps.getD 1 undef = (.int .i64 ((a : Nat) : Int)) := hA 1 (by simp)
 have l : c.tmps.getD 2 undef = (.int .i64 ((b : Nat) : Int)) := hA 2 (by simp)
 clear hA
 refine zF fun _ c => zH (zG (zC hN rfl k) (op_add (zA hN rfl) rfl (add64 zx) (zD (zA hN rfl) (zB (c _ _ (wp_block (loop_m (fun mz_ az_ w' => ∃ (i : Nat) (dk : Ar), mz_ = b - i ∧ (Sl az_ 0 v) ∧ (Sl az_ 1 (.int .i64 ((a : Nat) : Int))) ∧ (Sl az_ 2 (.int .i64 ((b : Nat) : Int))) ∧ (Sl az_ 6 (.int .i64 ((i : Nat) : Int))) ∧ (dk.size = n) ∧ (a + 1 ≤ i ∧ (i ≤ b ∨ i = a + 1)) ∧ (insOuter ltT a b (a + 1) d = insOuter ltT a b i dk) ∧ (w.grownBy w' v.ownBlock) ∧ (w.heap.size ≤ w'.heap.size) ∧ (Own w' base 56 1 v n (dk.toList.map u16v))) _ hN hd ⟨(a + 1), _, rfl, (zL hN rfl g), (zL hN rfl k), (zL hN rfl l), (zU hN rfl).trans (congrArg (Value.int .i64) zx), (by first | assumption | (simp only [Array.size_setIfInBounds, swp_sz, siftDown_size]; assumption)), ⟨Nat.le_refl _, .inr rfl⟩, rfl, hb, (Nat.le_refl _), O⟩ ?_)))))))
 rintro _ s p g o ⟨i, dk, rfl, r, q, m, k, hdk, hi, ho, hb, t, l⟩
 have := hb.size
 refine zF fun _ c => zF fun _ s => zH (zG (zC g rfl k) (zG (zC g rfl m) (op_lss (zA g rfl) (zA g rfl) (fun t => ?_) (fun t => ?_))))
 ·
  refine zB (s _ _ (wp_cond_true (zA g rfl) (wp_skip (c _ _ (zF fun _ c => wp_block (zF fun _ s => zH (zG (zC g rfl k) (zD (zA g rfl) (zB (s _ _ (wp_block (loop_m (fun mz_ az_ w' => ∃ (jj : Nat) (dj : Ar), mz_ = (jj + 1) ∧ (Sl az_ 0 v) ∧ (Sl az_ 1 (.int .i64 ((a : Nat) : Int))) ∧ (Sl az_ 2 (.int .i64 ((b : Nat) : Int))) ∧ (Sl az_ 6 (.int .i64 ((i : Nat) : Int))) ∧ (Sl az_ 7 (.int .i64 ((jj : Nat) : Int))) ∧ (dj.size = n) ∧ (a ≤ jj ∧ jj ≤ i) ∧ (insInner ltT a i dk = insInner ltT a jj dj) ∧ (w.grownBy w' v.ownBlock) ∧ (p.heap.size ≤ w'.heap.size) ∧ (Own w' base 56 1 v n (dj.toList.map u16v))) _ g o ⟨i, _, rfl, (zL g rfl r), (zL g rfl q), (zL g rfl m), (zL g rfl k), (zU g rfl).trans (congrArg (Value.int .i64) zx), (by first | assumption | (simp only [Array.size_setIfInBounds, swp_sz, siftDown_size]; assumption)), zx, rfl, hb, (Nat.le_refl _), l⟩ ?_))))))))))))
  rintro _ y A k u ⟨jj, dj, rfl, m, r, t, x, p, hdj, hji, hj, hb, z, q⟩
  have := hb.size
  refine zF fun _ s => zF fun _ y => reg_still mixed zy ?_
  intro A z
  have := z.size
  have q := q.keep0 z
  have hb := grow_step0 hb z
  refine st_step rfl (fun _ z => zG (zC k rfl p) z) (st_step rfl (fun _ z => zG (zC k rfl r) z) ?_)
  by_cases A : ((a : Nat) : Int) < ((jj : Nat) : Int)
  ·
   refine st_step rfl (fun _ z => op_cmp (b := true) (zA k rfl) (zA k rfl) (b_gtr (decide_eq_true A)) z) (st_step rfl (fun _ z => zG (zA k rfl) z) (st_g_true (j := 3) (dj := 19) (b := true) rfl rfl rfl (zA k rfl) (st_step rfl (fun _ z => zG (zC k rfl m) z) (st_g_true (j := 3) (dj := 19) (b := true) rfl rfl rfl (zA k rfl) (st_step rfl (fun _ z => zG (zC k rfl p) z) (st_g_true (j := 3) (dj := 19) (b := true) rfl rfl rfl (zA k rfl) (st_index_rd slt23 (zA k rfl) q.rdw (zA k rfl) zx zx ?_)))))))
   intro F E D C B
   refine st_g_true (j := 3) (dj := 19) (b := true) rfl rfl rfl (zA k rfl) (st_step rfl (fun _ z => zN (v := (Value.int .u16 (dj[jj]!.toNat : Int))) one56 (zA k rfl) (by have := B 0 (.int .u16 (dj[jj]!.toNat : Int)) zz (el_arr (i := jj) zx (by first | omega | (simp only [Array.size_setIfInBounds, swp_sz, siftDown_size]; omega))); simpa using this) z) (st_g_true (j := 3) (dj := 19) (b := true) rfl rfl rfl (zA k rfl) (st_step rfl (fun _ z => zG (zC k rfl m) z) (st_g_true (j := 3) (dj := 19) (b := true) rfl rfl rfl (zA k rfl) (st_step rfl (fun _ z => zG (zC k rfl p) z) (st_g_true (j := 3) (dj := 19) (b := true) rfl rfl rfl (zA k rfl) (st_step rfl (fun _ z => op_sub (zA k rfl) rfl (sub64 zx) z) (st_g_true (j := 3) (dj := 19) (b := true) rfl rfl rfl (zA k rfl) (st_index_rd slt23 (zA k rfl) q.rdw (zA k rfl) zx zx ?_)))))))))
   intro E F D C B
   refine st_g_true (j := 3) (dj := 19) (b := true) rfl rfl rfl (zA k rfl) (st_step rfl (fun _ z => zN (v := (Value.int .u16 (dj[(jj - 1)]!.toNat : Int))) one56 (zA k rfl) (by have := B 0 (.int .u16 (dj[(jj - 1)]!.toNat : Int)) zz (el_arr (i := (jj - 1)) zx (by first | omega | (simp only [Array.size_setIfInBounds, swp_sz, siftDown_size]; omega))); simpa using this) z) (st_g_true (j := 3) (dj := 19) (b := true) rfl rfl rfl (zA k rfl) (st_fn (vs := [(.int .u16 (dj[jj]!.toNat : Int)), (.int .u16 (dj[(jj - 1)]!.toNat : Int))]) ok100 (⟨(zA k rfl), ⟨(zA k rfl), trivial⟩⟩) (Less16_ret dj[jj]! dj[(jj - 1)]! _) (st_step rfl (fun _ z => zc (zA k rfl) (zA k rfl) z) (st_nil (y _ _ (wp_cond_split (zA k rfl) (fun C => ?_) (fun C => ?_))))))))
   ·
    refine wp_skip (s _ _ (zF fun _ s => wp_block (reg_mid (e := 56) (sz := 1) (base := base) (n := n) (v := v) (Φ := phiL [(fun uz _ => uz = v), (fun uz _ => uz = (.int .i64 ((jj : Nat) : Int))), (fun uz _ => uz = v), (fun uz _ => uz = (.int .i64 ((jj : Nat) : Int))), (fun uz _ => uz = (.int .i64 (((jj : Nat) : Int) - 1))), (fun uz _ => uz = v), (fun uz _ => uz = (.int .i64 ((jj : Nat) : Int))), (fun uz _ => uz = (.int .i64 (((jj : Nat) : Int) - 1))), (fun uz _ => ∃ bz oz, uz = ptr bz oz ∧ AtV v (jj - 1) bz oz), (fun uz _ => uz = (.int .u16 (dj[(jj - 1)]!.toNat : Int))), (fun uz _ => uz = v), (fun uz _ => uz = (.int .i64 ((jj : Nat) : Int))), (fun uz _ => ∃ bz oz, uz = ptr bz oz ∧ AtV v jj bz oz), (fun uz _ => uz = (.int .u16 (dj[jj]!.toNat : Int))), (fun uz _ => ∃ bz oz, uz = ptr bz oz ∧ AtV v jj bz oz), (fun _ _ => True), (fun uz _ => ∃ bz oz, uz = ptr bz oz ∧ AtV v (jj - 1) bz oz), (fun _ _ => True)]) [15, 17] [(dj.toList.map u16v), ((dj.setIfInBounds jj dj[(jj - 1)]!).toList.map u16v), (((dj.setIfInBounds jj dj[(jj - 1)]!).setIfInBounds (jj - 1) dj[jj]!).toList.map u16v)] mixed zy zy zy zy k q (StL.get (StL.eq (StL.eq (StL.eq (StL.eq (StL.eq (StL.eq (StL.eq (StL.eq (StL.at (StL.eq (StL.eq (StL.eq (StL.at (StL.eq (StL.at (StL.cons (fun _ _ _ _ h => h) (StL.at (StL.cons (fun _ _ _ _ h => h) (StL.nil _)))))))))))))))))))) (ObRs.get (ObRs.cons ?_ (ObRs.cons ?_ (ObRs.cons ?_ (ObRs.cons ?_ (ObRs.cons ?_ (ObRs.cons ?_ (ObRs.cons ?_ (ObRs.cons ?_ (ObRs.cons ?_ (ObRs.cons ?_ (ObRs.cons ?_ (ObRs.cons ?_ (ObRs.cons ?_ (ObRs.cons ?_ (ObRs.cons ?_ (ObRs.pass rfl (ObRs.cons ?_ (ObRs.pass rfl (ObRs.nil)))))))))))))))))))) (ObWs.get (ObWs.cons ?_ (ObWs.cons ?_ (ObWs.nil)))) ?_)))
    ·
     intro aA wA cA hNA hRA hckA hOA hbsA hdpA
     have B := (hbsA 0 rfl).trans (zL k rfl m)
     clear hbsA hdpA
     refine zG (zC hNA rfl B) ?_
     exact obR_end rfl rfl (grown_refl _ _)
    ·
     intro aA wA cA hNA hRA hckA hOA hbsA hdpA
     have D := (hbsA 7 rfl).trans (zL k rfl p)
     clear hbsA hdpA
     refine zG (zC hNA rfl D) ?_
     exact obR_end rfl rfl (grown_refl _ _)
    ·
     intro aA wA cA hNA hRA hckA hOA hbsA hdpA
     have B := (hbsA 0 rfl).trans (zL k rfl m)
     clear hbsA hdpA
     refine zG (zC hNA rfl B) ?_
     exact obR_end rfl rfl (grown_refl _ _)
    ·
     intro aA wA cA hNA hRA hckA hOA hbsA hdpA
     have D := (hbsA 7 rfl).trans (zL k rfl p)
     clear hbsA hdpA
     refine zG (zC hNA rfl D) ?_
     exact obR_end rfl rfl (grown_refl _ _)
    ·
     intro aA wA cA hNA hRA hckA hOA hbsA hdpA
     have E : Sl aA 36 (.int .i64 ((jj : Nat) : Int)) := hdpA 3 _ 36 zy rfl rfl
     clear hbsA hdpA
     refine op_sub (zC hNA rfl E) rfl (sub64 zx) ?_
     exact obR_end rfl rfl (grown_refl _ _)
    ·
     intro aA wA cA hNA hRA hckA hOA hbsA hdpA
     have B := (hbsA 0 rfl).trans (zL k rfl m)
     clear hbsA hdpA
     refine zG (zC hNA rfl B) ?_
     exact obR_end rfl rfl (grown_refl _ _)
    ·
     intro aA wA cA hNA hRA hckA hOA hbsA hdpA
     have D := (hbsA 7 rfl).trans (zL k rfl p)
     clear hbsA hdpA
     refine zG (zC hNA rfl D) ?_
     exact obR_end rfl rfl (grown_refl _ _)
    ·
     intro aA wA cA hNA hRA hckA hOA hbsA hdpA
     have E : Sl aA 39 (.int .i64 ((jj : Nat) : Int)) := hdpA 6 _ 39 zy rfl rfl
     clear hbsA hdpA
     refine op_sub (zC hNA rfl E) rfl (sub64 zx) ?_
     exact obR_end rfl rfl (grown_refl _ _)
    ·
     intro aA wA cA hNA hRA hckA hOA hbsA hdpA
     have E : Sl aA 38 v := hdpA 5 _ 38 zy rfl rfl
     have F : Sl aA 40 (.int .i64 (((jj : Nat) : Int) - 1)) := hdpA 7 _ 40 zy rfl rfl
     clear hbsA hdpA
     refine op_index_own (i := (jj - 1)) slt23 (zC hNA rfl E) hOA (zC hNA rfl F) zx zx ?_
     intro b_ o_ _ hA_
     exact obR_end rfl ⟨b_, o_, rfl, by simpa using hA_⟩ (grown_refl _ _)
    ·
     intro aA wA cA hNA hRA hckA hOA hbsA hdpA
     obtain ⟨H, G, F, E⟩ := hdpA 8 _ 41 zy rfl rfl
     clear hbsA hdpA
     obtain rfl : cA = 0 := Nat.le_zero.1 (hckA 0 15 rfl zy)
     have hOA : Own wA base 56 1 v n (dj.toList.map u16v) := hOA
     refine zN (v := (Value.int .u16 (dj[(jj - 1)]!.toNat : Int))) one56 (zC hNA rfl F) (by have := hOA.cellAt E 0 _ (el_at (i := (jj - 1)) (by first | omega | (simp only [Array.size_setIfInBounds, swp_sz, siftDown_size]; omega))); simpa using this) ?_
     exact obR_end rfl rfl (grown_refl _ _)
    ·
     intro aA wA cA hNA hRA hckA hOA hbsA hdpA
     have B := (hbsA 0 rfl).trans (zL k rfl m)
     clear hbsA hdpA
     refine zG (zC hNA rfl B) ?_
     exact obR_end rfl rfl (grown_refl _ _)
    ·
     intro aA wA cA hNA hRA hckA hOA hbsA hdpA
     have D := (hbsA 7 rfl).trans (zL k rfl p)
     clear hbsA hdpA
     refine zG (zC hNA rfl D) ?_
     exact obR_end rfl rfl (grown_refl _ _)
    ·
     intro aA wA cA hNA hRA hckA hOA hbsA hdpA
     have B : Sl aA 43 v := hdpA 10 _ 43 zy rfl rfl
     have D : Sl aA 44 (.int .i64 ((jj : Nat) : Int)) := hdpA 11 _ 44 zy rfl rfl
     clear hbsA hdpA
     refine op_index_own (i := jj) slt23 (zC hNA rfl B) hOA (zC hNA rfl D) zx zx ?_
     intro b_ o_ _ hA_
     exact obR_end rfl ⟨b_, o_, rfl, by simpa using hA_⟩ (grown_refl _ _)
    ·
     intro aA wA cA hNA hRA hckA hOA hbsA hdpA
     obtain ⟨F, E, B, D⟩ := hdpA 12 _ 45 zy rfl rfl
     clear hbsA hdpA
     obtain rfl : cA = 0 := Nat.le_zero.1 (hckA 0 15 rfl zy)
     have hOA : Own wA base 56 1 v n (dj.toList.map u16v) := hOA
     refine zN (v := (Value.int .u16 (dj[jj]!.toNat : Int))) one56 (zC hNA rfl B) (by have := hOA.cellAt D 0 _ (el_at (i := jj) (by first | omega | (simp only [Array.size_setIfInBounds, swp_sz, siftDown_size]; omega))); simpa using this) ?_
     exact obR_end rfl rfl (grown_refl _ _)
    ·
     intro aA wA cA hNA hRA hckA hOA hbsA hdpA
     have B : Sl aA 33 v := hdpA 0 _ 33 zy rfl rfl
     have D : Sl aA 34 (.int .i64 ((jj : Nat) : Int)) := hdpA 1 _ 34 zy rfl rfl
     clear hbsA hdpA
     refine op_index_own (i := jj) slt23 (zC hNA rfl B) hOA (zC hNA rfl D) zx zx ?_
     intro b_ o_ _ hA_
     exact obR_end rfl ⟨b_, o_, rfl, by simpa using hA_⟩ (grown_refl _ _)
    ·
     intro aA wA cA hNA hRA hckA hOA hbsA hdpA
     have B : Sl aA 35 v := hdpA 2 _ 35 zy rfl rfl
     have D : Sl aA 37 (.int .i64 (((jj : Nat) : Int) - 1)) := hdpA 4 _ 37 zy rfl rfl
     clear hbsA hdpA
     refine op_index_own (i := (jj - 1)) slt23 (zC hNA rfl B) hOA (zC hNA rfl D) zx zx ?_
     intro b_ o_ _ hA_
     exact obR_end rfl ⟨b_, o_, rfl, by simpa using hA_⟩ (grown_refl _ _)
    ·
     intro o_ ho_; obtain rfl := zE ho_; intro aA wA hNA hRA hbsA hdpA hOA
     obtain ⟨E, F, D, B⟩ := hdpA 14 _ 47 zy rfl rfl
     have E : Sl aA 42 (.int .u16 (dj[(jj - 1)]!.toNat : Int)) := hdpA 9 _ 42 zy rfl rfl
     clear hbsA hdpA
     have hOA : Own wA base 56 1 v n (dj.toList.map u16v) := hOA
     refine op_store_own (vs := [(.int .u16 (dj[(jj - 1)]!.toNat : Int))]) size56 (zC hNA rfl D) (zC hNA rfl E) rfl rfl rfl hOA B (by have := hOA.1; simp at this ⊢; omega) ?_
     intro w_ hO_ E_
     exact obW_end rfl (hO_.cast rfl (set_arr (by first | omega | (simp only [Array.size_setIfInBounds, swp_sz, siftDown_size]; omega)))) E_
    ·
     intro o_ ho_; obtain rfl := zE ho_; intro aA wA hNA hRA hbsA hdpA hOA
     obtain ⟨F, E, D, B⟩ := hdpA 16 _ 48 zy rfl rfl
     have E : Sl aA 46 (.int .u16 (dj[jj]!.toNat : Int)) := hdpA 13 _ 46 zy rfl rfl
     clear hbsA hdpA
     have hOA : Own wA base 56 1 v n ((dj.setIfInBounds jj dj[(jj - 1)]!).toList.map u16v) := hOA
     refine op_store_own (vs := [(.int .u16 (dj[jj]!.toNat : Int))]) size56 (zC hNA rfl D) (zC hNA rfl E) rfl rfl rfl hOA B (by have := hOA.1; simp at this ⊢; omega) ?_
     intro w_ hO_ E_
     exact obW_end rfl (hO_.cast rfl (set_arr (by first | omega | (simp only [Array.size_setIfInBounds, swp_sz, siftDown_size]; omega)))) E_
    intro J H B E D I F G
    have E := E.trans u
    have J := (D 0 rfl).trans (zL k rfl m)
    have K := (D 1 rfl).trans (zL k rfl r)
    have L := (D 2 rfl).trans (zL k rfl t)
    have M := (D 6 rfl).trans (zL k rfl x)
    have P := (D 7 rfl).trans (zL k rfl p)
    clear D I
    have F : Own H base 56 1 v n (((dj.setIfInBounds jj dj[(jj - 1)]!).setIfInBounds (jj - 1) dj[jj]!).toList.map u16v) := F
    have := G.size
    have hb := grow_stepX hb G rfl
    refine s _ _ (zH (zG (zC B rfl P) (op_sub (zA B rfl) rfl (sub64 zx) (zD (zA B rfl) (zB ?_)))))
    -- round 12T 18T 30T
    exact zg _ B E ⟨(jj - 1), _, rfl, (zL B rfl J), (zL B rfl K), (zL B rfl L), (zL B rfl M), (zU B rfl).trans (congrArg (Value.int .i64) zx), (by first | assumption | (simp only [Array.size_setIfInBounds, swp_sz, siftDown_size]; assumption)), zx, (hj.trans (insInner_go zx C)), hb, zx, F⟩ zx
   refine wp_exit (then_exit (then_exit (blk_hit (c _ _ (zH (zG (zC k rfl x) (op_add (zA k rfl) rfl (add64 zx) (zD (zA k rfl) (zB ?_)))))))))
   -- round 12T 18T 30F
   exact zg _ k u ⟨i + 1, _, rfl, (zL k rfl m), (zL k rfl r), (zL k rfl t), (zU k rfl).trans (congrArg (Value.int .i64) zx), (by first | assumption | (simp only [Array.size_setIfInBounds, swp_sz, siftDown_size]; assumption)), zx, (ho.trans ((insOuter_go zx).trans (congrArg (insOuter ltT a b (i + 1)) (hj.trans (insInner_stop (.inr C)))))), hb, zx, q⟩ zx
  refine st_step rfl (fun _ z => op_cmp (b := false) (zA k rfl) (zA k rfl) (b_gtr (decide_eq_false A)) z) (st_step rfl (fun _ z => zG (zA k rfl) z) (st_g_false (j := 3) (dj := 19) (b := true) rfl rfl rfl (zA k rfl) rfl rfl (st_g_false (j := 3) (dj := 19) (b := true) rfl rfl rfl (zA k rfl) rfl rfl (st_g_false (j := 3) (dj := 19) (b := true) rfl rfl rfl (zA k rfl) rfl rfl (st_g_false (j := 3) (dj := 19) (b := true) rfl rfl rfl (zA k rfl) rfl rfl (st_g_false (j := 3) (dj := 19) (b := true) rfl rfl rfl (zA k rfl) rfl rfl (st_g_false (j := 3) (dj := 19) (b := true) rfl rfl rfl (zA k rfl) rfl rfl (st_g_false (j := 3) (dj := 19) (b := true) rfl rfl rfl (zA k rfl) rfl rfl (st_g_false (j := 3) (dj := 19) (b := true) rfl rfl rfl (zA k rfl) rfl rfl ?_)))))))))
  refine st_g_false (j := 3) (dj := 19) (b := true) rfl rfl rfl (zA k rfl) rfl rfl (st_g_false (j := 3) (dj := 19) (b := true) rfl rfl rfl (zA k rfl) rfl rfl (st_step rfl (fun _ z => zd (zA k rfl) rfl z) (st_nil (y _ _ (wp_cond_false (zA k rfl) (wp_exit (then_exit (then_exit (blk_hit (c _ _ (zH (zG (zC k rfl x) (op_add (zA k rfl) rfl (add64 zx) (zD (zA k rfl) (zB ?_)))))))))))))))
  -- round 12T 18F
  exact zg _ k u ⟨i + 1, _, rfl, (zL k rfl m), (zL k rfl r), (zL k rfl t), (zU k rfl).trans (congrArg (Value.int .i64) zx), (by first | assumption | (simp only [Array.size_setIfInBounds, swp_sz, siftDown_size]; assumption)), zx, (ho.trans ((insOuter_go zx).trans (congrArg (insOuter ltT a b (i + 1)) (hj.trans (insInner_stop (.inl zx)))))), hb, zx, q⟩ zx
 refine zB (s _ _ (wp_cond_false (zA g rfl) (wp_exit (then_exit (then_exit (blk_hit (end_ret (ret0 rfl o  ⟨_, rfl, ?_⟩))))))))
 exact ⟨hb, rfl, l.cast rfl (by rw [show insertionSort ltT d a b = insOuter ltT a b (a + 1) d from rfl, ho, insOuter_stop zx])⟩
open Go.Sort (insertionSort insOuter insInner swp siftDown heapSort heapBuild heapPop scanUp scanDown partition partLoop partitionEqual partEqLoop scanSorted partialIns bitsLen partialInsertionSort shiftDown shiftUp SortedIn reverseRange reverseLoop fixDown fixUp)
open Go.Sort (insertionSort insOuter insInner swp siftDown heapSort heapBuild heapPop scanUp scanDown partition partLoop partitionEqual partEqLoop scanSorted partialIns bitsLen partialInsertionSort shiftDown shiftUp SortedIn reverseRange reverseLoop fixDown fixUp)
open Go.Sort (insertionSort insOuter insInner swp siftDown heapSort heapBuild heapPop scanUp scanDown partition partLoop partitionEqual partEqLoop scanSorted partialIns bitsLen partialInsertionSort shiftDown shiftUp SortedIn reverseRange reverseLoop fixDown fixUp)
open Go.Sort (insertionSort insOuter insInner swp siftDown heapSort heapBuild heapPop scanUp scanDown partition partLoop partitionEqual partEqLoop scanSorted partialIns bitsLen partialInsertionSort shiftDown shiftUp SortedIn reverseRange reverseLoop fixDown fixUp)
theorem len64W_ret (n : Nat) (w : World) (hn : n < 18446744073709551616) : Ret Tryz.prog 104 #[(.int .u64 ((n : Nat) : Int))] w (fun v' w' => Below w.heap.size w w' ∧ v' = .int .i64 (bitsLen n : Int)) := by
 have hb := Below.refl w.heap.size w
 refine enter (N := 25) Tryz.func104 rfl rfl (by simp) fun a hN hd hA => ?_
 have c : a.tmps.getD 0 undef = (.int .u64 ((n : Nat) : Int)) := hA 0 (by simp)
 clear hA
 refine zF fun _ a => zH (zD rfl (zB (a _ _ (seq_join1 (N := 25) (fun az_ w' => ∃ (e g : Nat), (Sl az_ 0 (.int .u64 ((e : Nat) : Int))) ∧ (Sl az_ 2 (.int .i64 ((g : Nat) : Int))) ∧ (bitsLen n = g + bitsLen e ∧ e < 4294967296 ∧ g ≤ 32) ∧ (Below w.heap.size w w') ∧ (w.heap.size ≤ w'.heap.size)) (fun h => ?_) ?_))))
 ·
  refine zF fun _ a => zF fun _ k => zH (zG (zC hN rfl c) (op_geq (zA hN rfl) rfl (fun l => ?_) (fun l => ?_)))
  ·
   refine zB ?_
   refine k _ _ (wp_cond_true (zA hN rfl) (zF fun _ k => zH (zG (zC hN rfl c) (op_shr (r := ((n / 4294967296 : Nat) : Int)) (zA hN rfl) rfl zz (shr_nat (j := 32) zx zz) (zD (zA hN rfl) (zB (k _ _ (zH (zD rfl (zB (a _ _ ?_)))))))))))
   exact h _ _ _ hN hd ⟨(n / 4294967296), (0 + 32), (zU hN rfl).trans (congrArg (Value.int .u64) zx), (zU hN rfl).trans (congrArg (Value.int .i64) zx), (by have hz := bits_32 (n := n) zx; omega), hb, zx⟩
  refine zB (k _ _ (wp_cond_false (zA hN rfl) (wp_skip (a _ _ ?_))))
  exact h _ _ _ hN hd ⟨n, 0, (zL hN rfl c).trans (congrArg (Value.int .u64) zx), (zU hN rfl).trans (congrArg (Value.int .i64) zx), zx, hb, zx⟩
 rintro q o c m ⟨e, g, h, l, p, hb, s⟩
 have := hb.size
 refine seq_join1 (N := 25) (fun az_ w' => ∃ (p q : Nat), (Sl az_ 0 (.int .u64 ((p : Nat) : Int))) ∧ (Sl az_ 2 (.int .i64 ((q : Nat) : Int))) ∧ (bitsLen n = q + bitsLen p ∧ p < 65536 ∧ q ≤ 48) ∧ (Below w.heap.size w w') ∧ (o.heap.size ≤ w'.heap.size)) (fun s => ?_) ?_
 ·
  refine zF fun _ a => zF fun _ k => zH (zG (zC c rfl h) (op_geq (zA c rfl) rfl (fun o => ?_) (fun o => ?_)))
  ·
   refine zB (k _ _ (wp_cond_true (zA c rfl) (zF fun _ k => zH ?_)))
   refine zG (zC c rfl h) (op_shr (r := ((e / 65536 : Nat) : Int)) (zA c rfl) rfl zz (shr_nat (j := 16) zx zz) (zD (zA c rfl) (zB (k _ _ (zH (zG (zC c rfl l) (op_add (zA c rfl) rfl (add64 zx) (zD (zA c rfl) (zB (a _ _ ?_))))))))))
   exact s _ _ _ c m ⟨(e / 65536), (g + 16), (zU c rfl).trans (congrArg (Value.int .u64) zx), (zU c rfl).trans (congrArg (Value.int .i64) zx), (by have hz := bits_16 (n := e) zx; omega), hb, zx⟩
  refine zB (k _ _ (wp_cond_false (zA c rfl) (wp_skip (a _ _ ?_))))
  exact s _ _ _ c m ⟨e, g, (zL c rfl h).trans (congrArg (Value.int .u64) zx), (zL c rfl l).trans (congrArg (Value.int .i64) zx), zx, hb, zx⟩
 rintro s l c g ⟨p, q, e, h, m, hb, o⟩
 have := hb.size
 refine seq_join1 (N := 25) (fun az_ w' => ∃ (m o : Nat), (Sl az_ 0 (.int .u64 ((m : Nat) : Int))) ∧ (Sl az_ 2 (.int .i64 ((o : Nat) : Int))) ∧ (bitsLen n = o + bitsLen m ∧ m < 256 ∧ o ≤ 56) ∧ (Below w.heap.size w w') ∧ (l.heap.size ≤ w'.heap.size)) (fun s => ?_) ?_
 ·
  refine zF fun _ a => zF fun _ k => zH (zG (zC c rfl e) (op_geq (zA c rfl) rfl (fun l => ?_) (fun l => ?_)))
  ·
   refine zB (k _ _ (wp_cond_true (zA c rfl) (zF fun _ k => zH ?_)))
   refine zG (zC c rfl e) (op_shr (r := ((p / 256 : Nat) : Int)) (zA c rfl) rfl zz (shr_nat (j := 8) zx zz) (zD (zA c rfl) (zB (k _ _ (zH (zG (zC c rfl h) (op_add (zA c rfl) rfl (add64 zx) (zD (zA c rfl) (zB (a _ _ ?_))))))))))
   exact s _ _ _ c g ⟨(p / 256), (q + 8), (zU c rfl).trans (congrArg (Value.int .u64) zx), (zU c rfl).trans (congrArg (Value.int .i64) zx), (by have hz := bits_8 (n := p) zx; omega), hb, zx⟩
  refine zB (k _ _ (wp_cond_false (zA c rfl) (wp_skip (a _ _ ?_))))
  exact s _ _ _ c g ⟨p, q, (zL c rfl e).trans (congrArg (Value.int .u64) zx), (zL c rfl h).trans (congrArg (Value.int .i64) zx), zx, hb, zx⟩
 rintro q p c g ⟨m, o, h, e, l, hb, k⟩
 have := hb.size
 refine zF fun _ a => zH (zG (zC c rfl e) (zG (zC c rfl h) (op_conv (r := ((m : Nat) : Int)) (zA c rfl) us149 Tryz.underlying5 (wrap_u8 zx) ?_)))
 have e := tab8_sz
 have e := tab8_len (z := m) zx
 have e : m < tab8.length := by omega
 have h : bitsLen m ≤ 8 := (Go.Sort.bitsLen_le_iff m 8).2 zx
 refine op_index_str (b := (tab8.getD m 0)) Tryz.underlying9 rfl (zA c rfl) (Int.natCast_nonneg _) (el_str (i := m) rfl e) (op_conv (r := ((tab8.getD m 0).toNat : Int)) (zA c rfl) us5 Tryz.underlying3 (wrap_i64 (by have := ((tab8.getD m 0)).toNat_lt; omega)) (op_add (zA c rfl) (zA c rfl) (add64 zx) (zD (zA c rfl) (zB (a _ _ (wp_ret (ret1 rfl g (zA c rfl) ⟨_, rfl, ?_⟩)))))))
 exact ⟨hb, congrArg (Value.int .i64) zx⟩

theorem lenW_ret (n : Nat) (w : World) (hn : n < 18446744073709551616) : Ret Tryz.prog 92 #[(.int .u64 ((n : Nat) : Int))] w (fun v' w' => Below w.heap.size w w' ∧ v' = .int .i64 (bitsLen n : Int)) := by
 have hb := Below.refl w.heap.size w
 refine enter (N := 8) Tryz.func92 rfl rfl (by simp) fun a hN hd hA => ?_
 have b : a.tmps.getD 0 undef = (.int .u64 ((n : Nat) : Int)) := hA 0 (by simp)
 clear hA
 refine zF fun _ a => zH (zD rfl ?_)
 refine zB (a _ _ (zF fun _ a => wp_cond_false rfl (wp_skip (a _ _ (zF fun _ a => zH (zG (zC hN rfl b) (zj ok104 (len64W_ret n _ zx) ⟨(zA hN rfl), trivial⟩ ?_)))))))
 rintro _ c ⟨b, rfl⟩
 have b := zQ b
 obtain ⟨hb, _⟩ := yE hb b
 refine zD (zA hN rfl) (zB (a _ _ (wp_ret (ret1 rfl hd (zA hN rfl) ⟨_, rfl, ?_⟩))))
 exact ⟨hb, rfl⟩
open Go.Sort (insertionSort insOuter insInner swp siftDown heapSort heapBuild heapPop scanUp scanDown partition partLoop partitionEqual partEqLoop scanSorted partialIns bitsLen partialInsertionSort shiftDown shiftUp SortedIn reverseRange reverseLoop fixDown fixUp)
open Go.Sort (insertionSort insOuter insInner swp siftDown heapSort heapBuild heapPop scanUp scanDown partition partLoop partitionEqual partEqLoop scanSorted partialIns bitsLen partialInsertionSort shiftDown shiftUp SortedIn reverseRange reverseLoop fixDown fixUp)
open Go.Sort (insertionSort insOuter insInner swp siftDown heapSort heapBuild heapPop scanUp scanDown partition partLoop partitionEqual partEqLoop scanSorted partialIns bitsLen partialInsertionSort shiftDown shiftUp SortedIn reverseRange reverseLoop fixDown fixUp)
open Go.Sort (insertionSort insOuter insInner swp siftDown heapSort heapBuild heapPop scanUp scanDown partition partLoop partitionEqual partEqLoop scanSorted partialIns bitsLen partialInsertionSort shiftDown shiftUp SortedIn reverseRange reverseLoop fixDown fixUp)
open Go.Sort (insertionSort insOuter insInner swp siftDown heapSort heapBuild heapPop scanUp scanDown partition partLoop partitionEqual partEqLoop scanSorted partialIns bitsLen partialInsertionSort shiftDown shiftUp SortedIn reverseRange reverseLoop fixDown fixUp)
open Go.Sort (insertionSort insOuter insInner swp siftDown heapSort heapBuild heapPop scanUp scanDown partition partLoop partitionEqual partEqLoop scanSorted partialIns bitsLen partialInsertionSort shiftDown shiftUp SortedIn reverseRange reverseLoop fixDown fixUp)
open Go.Sort (insertionSort insOuter insInner swp siftDown heapSort heapBuild heapPop scanUp scanDown partition partLoop partitionEqual partEqLoop scanSorted partialIns bitsLen partialInsertionSort shiftDown shiftUp SortedIn reverseRange reverseLoop fixDown fixUp)
theorem compW_ret (d : Ar) (v : Value) (n base : Nat) (z0 : Nat) (w : World) (hd : d.size = n) (hn : n ≤ 4000000000000000000) (O : Own w base 56 1 v n (d.toList.map u16v)) : Ret Tryz.prog 87 #[v] w (fun v' w' => w.grownBy w' v.ownBlock ∧ v'.ownBlock = v.ownBlock ∧ Own w' base 56 1 v' (dd d.toList).length ((dd d.toList).map u16v)) := by
 have hb := grown_refl w v.ownBlock
 refine enter (N := 61) Tryz.func87 rfl rfl (by simp) fun a hN hd hA => ?_
 have c : a.tmps.getD 0 undef = v := hA 0 (by simp)
 clear hA
 refine zF fun _ g => zH (zD rfl (zB (g _ _ (zF fun _ g => zF fun _ a => zH (zG (zC hN rfl c) (op_len_rd Tryz.underlying23 (zA hN rfl) O.rdw (op_lss (zA hN rfl) rfl (fun h => ?_) (fun h => ?_))))))))
 ·
  refine zB (a _ _ (wp_cond_true (zA hN rfl) (zF fun _ a => zH (zG (zC hN rfl c) (zD (zA hN rfl) (zB (a _ _ (wp_ret (zO ( (ret1 rfl hd (zA hN rfl) ⟨_, rfl, ?_⟩)))))))))))
  have hzl : d.toList.length = n := by simp; assumption
  exact ⟨hb, rfl, by rw [dd_short zx, hzl]; exact O⟩
 refine zB (a _ _ (wp_cond_false (zA hN rfl) (wp_skip (g _ _ (zF fun _ g => zF fun _ a => zH (zD rfl (zB (a _ _ (wp_block (loop_m (fun mz_ az_ w' => ∃ (i : Nat), mz_ = (n + 1 - i) ∧ (Sl az_ 0 v) ∧ (Sl az_ 3 (.int .i64 ((i : Nat) : Int))) ∧ (1 ≤ i ∧ i ≤ n) ∧ (dd (d.toList.take i) = d.toList.take i) ∧ (w.grownBy w' v.ownBlock) ∧ (w.heap.size ≤ w'.heap.size) ∧ (Own w' base 56 1 v n (d.toList.map u16v))) _ hN hd ⟨1, rfl, (zL hN rfl c), (zU hN rfl).trans (congrArg (Value.int .i64) zx), zx, (dd_one zx), hb, (Nat.le_refl _), O⟩ ?_))))))))))
 rintro _ p o c l ⟨i, rfl, h, j, hi, hsm, hb, q, O⟩
 have := hb.size
 refine zF fun _ a => zF fun _ o => zH (zG (zC c rfl j) (zG (zC c rfl h) (op_len_rd Tryz.underlying23 (zA c rfl) O.rdw (op_lss (zA c rfl) (zA c rfl) (fun p => ?_) (fun p => ?_)))))
 ·
  refine zB (o _ _ (wp_cond_true (zA c rfl) (wp_skip (a _ _ (zF fun _ a => wp_block (zF fun _ o => reg_still mixed zy ?_))))))
  intro q p
  have := p.size
  have O := O.keep0 p
  have hb := grow_step0 hb p
  refine st_step rfl (fun _ p => zG (zC c rfl h) p) (st_step rfl (fun _ p => zG (zC c rfl j) p) (st_index_rd slt23 (zA c rfl) O.rdw (zA c rfl) zx zx ?_))
  intro t s u x r
  refine st_step rfl (fun _ p => zN (v := (Value.int .u16 (d[i]!.toNat : Int))) one56 (zA c rfl) (by have := r 0 (.int .u16 (d[i]!.toNat : Int)) zz (el_arr (i := i) zx (by first | omega | (simp only [Array.size_setIfInBounds, swp_sz, siftDown_size]; omega))); simpa using this) p) (st_step rfl (fun _ p => zG (zC c rfl h) p) (st_step rfl (fun _ p => zG (zC c rfl j) p) (st_step rfl (fun _ p => op_sub (zA c rfl) rfl (sub64 zx) p) (st_index_rd slt23 (zA c rfl) O.rdw (zA c rfl) zx zx ?_))))
  intro x u t s r
  refine st_step rfl (fun _ p => zN (v := (Value.int .u16 (d[(i - 1)]!.toNat : Int))) one56 (zA c rfl) (by have := r 0 (.int .u16 (d[(i - 1)]!.toNat : Int)) zz (el_arr (i := (i - 1)) zx (by first | omega | (simp only [Array.size_setIfInBounds, swp_sz, siftDown_size]; omega))); simpa using this) p) (st_step rfl (fun _ p => op_cmp (b := (decide ((d[i]!.toNat : Int) = (d[(i - 1)]!.toNat : Int)))) (zA c rfl) (zA c rfl) (b_eql rfl) p) (st_nil (o _ _ (wp_cond_split (zA c rfl) (fun s => ?_) (fun s => ?_)))))
  ·
   have s := of_decide_eq_true s
   refine zF fun _ o => zH (zG (zC c rfl h) (zG (zC c rfl j) ?_))
   refine op_slice_tail (k := i) slt23 (zA c rfl) O.rdw zx (zA c rfl) zx (zD (zA c rfl) (zB (o _ _ (zF fun _ o => zF fun _ t => zH (zD rfl (zB (t _ _ (wp_block (loop_m (fun mz_ az_ w' => ∃ (r kk : Nat) (dk : Ar), mz_ = (n + 1 - r) ∧ (Sl az_ 0 v) ∧ (Sl az_ 4 (tailV v i)) ∧ (Sl az_ 5 (.int .i64 ((r : Nat) : Int))) ∧ (Sl az_ 3 (.int .i64 ((kk : Nat) : Int))) ∧ (dk.size = n) ∧ (1 ≤ r ∧ i + r ≤ n ∧ 1 ≤ kk ∧ kk < i + r) ∧ (dk.toList.take kk = dd (d.toList.take (i + r))) ∧ (∀ u, kk ≤ u → dk[u]! = d[u]!) ∧ (w.grownBy w' v.ownBlock) ∧ (q.heap.size ≤ w'.heap.size) ∧ (Own w' base 56 1 v n (dk.toList.map u16v))) _ c l ⟨1, i, _, rfl, (zL c rfl h), (zU c rfl), (zU c rfl).trans (congrArg (Value.int .i64) zx), (zL c rfl j).trans (congrArg (Value.int .i64) zx), (by first | assumption | (simp only [Array.size_setIfInBounds, swp_sz, siftDown_size]; assumption)), zx, (by rw [dd_step zx zx, if_pos (u16_eq s).symm, hsm]), (fun _ _ => rfl), hb, (Nat.le_refl _), O⟩ ?_)))))))))
   rintro _ C E q B ⟨r, kk, dk, rfl, z, x, y, A, hdk, F, hdd, hsame, hb, D, u⟩
   have := hb.size
   refine zF fun _ t => zF fun _ C => zH (zG (zC q rfl y) (zG (zC q rfl x) (op_len_rd Tryz.underlying23 (zA q rfl) (RdC.tail u.rdw zx zx) (op_lss (zA q rfl) (zA q rfl) (fun D => ?_) (fun D => ?_)))))
   ·
    refine zB (C _ _ (wp_cond_true (zA q rfl) (wp_skip (t _ _ (zF fun _ t => wp_block (zF fun _ C => reg_still mixed zy ?_))))))
    intro E D
    have := D.size
    have u := u.keep0 D
    have hb := grow_step0 hb D
    refine st_step rfl (fun _ p => zG (zC q rfl x) p) (st_step rfl (fun _ p => zG (zC q rfl y) p) (st_index_rd slt23 (zA q rfl) (RdC.tail u.rdw zx zx) (zA q rfl) zx zx ?_))
    intro H E F G D
    refine st_step rfl (fun _ p => zN (v := (Value.int .u16 (dk[i + r]!.toNat : Int))) one56 (zA q rfl) (by have := D 0 (.int .u16 (dk[i + r]!.toNat : Int)) zz (el_arr_tail (i := r) zx zx); simpa using this) p) (st_step rfl (fun _ p => zG (zC q rfl x) p) (st_step rfl (fun _ p => zG (zC q rfl y) p) (st_step rfl (fun _ p => op_sub (zA q rfl) rfl (sub64 zx) p) (st_index_rd slt23 (zA q rfl) (RdC.tail u.rdw zx zx) (zA q rfl) zx zx ?_))))
    intro G H F E D
    refine st_step rfl (fun _ p => zN (v := (Value.int .u16 (dk[i + (r - 1)]!.toNat : Int))) one56 (zA q rfl) (by have := D 0 (.int .u16 (dk[i + (r - 1)]!.toNat : Int)) zz (el_arr_tail (i := (r - 1)) zx zx); simpa using this) p) (st_step rfl (fun _ p => op_cmp (b := (decide ((dk[i + r]!.toNat : Int) ≠ (dk[i + (r - 1)]!.toNat : Int)))) (zA q rfl) (zA q rfl) (b_neq rfl) p) (st_nil (C _ _ (wp_cond_split (zA q rfl) (fun E => ?_) (fun E => ?_)))))
    ·
     have E := of_decide_eq_true E
     refine zF fun _ C => zH (zG (zC q rfl z) (zG (zC q rfl A) (zG (zC q rfl x) (zG (zC q rfl y) (zh slt23 (zA q rfl) (RdC.tail u.rdw zx zx) (zA q rfl) zx zx ?_)))))
     intro G D F H p
     refine zN (v := (Value.int .u16 (dk[i + r]!.toNat : Int))) one56 (zA q rfl) (by have := p 0 (.int .u16 (dk[i + r]!.toNat : Int)) zz (el_arr_tail (i := r) zx zx); simpa using this) (op_index_own (i := kk) slt23 (zA q rfl) u (zA q rfl) zx zx ?_)
     intro F D G p
     have p : AtV v (kk) F D := by simpa using p
     have D := u
     refine op_store_own (vs := [(.int .u16 (dk[i + r]!.toNat : Int))]) size56 (zA q rfl) (zA q rfl) rfl rfl rfl D p (by have := D.1; simp; omega) ?_
     intro F p D
     have := D.size
     have hb := grow_stepX hb D rfl
     have p : Own F base 56 1 v n (((dk.setIfInBounds kk dk[i + r]!)).toList.map u16v) := by exact p.cast rfl (set_arr (by first | omega | (simp only [Array.size_setIfInBounds, swp_sz]; omega)))
     refine zB ?_
     refine C _ _ (zH (zG (zC q rfl A) (op_add (zA q rfl) rfl (add64 zx) (zD (zA q rfl) (zB (t _ _ (zH (zG (zC q rfl y) (op_add (zA q rfl) rfl (add64 zx) (zD (zA q rfl) (zB ?_)))))))))))
     -- round 8F 13T 25T 32T 44T
     have D := dd_keep (d := d) (dk := dk) (i := i + r) (k := kk) zx zx zx zx hdd hsame (by rw [← hsame (i + r) zx, ← hsame (i + r - 1) zx]; intro e; apply E; rw [show i + (r - 1) = i + r - 1 by omega, e])
     rw [← hsame (i + r) zx] at D
     exact zg _ q B ⟨(r + 1), (kk + 1), _, rfl, (zL q rfl z), (zL q rfl x), (zU q rfl).trans (congrArg (Value.int .i64) zx), (zU q rfl).trans (congrArg (Value.int .i64) zx), (by first | assumption | (simp only [Array.size_setIfInBounds, swp_sz, siftDown_size]; assumption)), zx, D.1, D.2, hb, zx, p⟩ zx
    have E := of_decide_eq_false E
    refine wp_skip (t _ _ (zH (zG (zC q rfl y) (op_add (zA q rfl) rfl (add64 zx) (zD (zA q rfl) (zB ?_))))))
    -- round 8F 13T 25T 32T 44F
    exact zg _ q B ⟨(r + 1), kk, _, rfl, (zL q rfl z), (zL q rfl x), (zU q rfl).trans (congrArg (Value.int .i64) zx), (zL q rfl A).trans (congrArg (Value.int .i64) zx), (by first | assumption | (simp only [Array.size_setIfInBounds, swp_sz, siftDown_size]; assumption)), zx, (hdd.trans (by rw [← Nat.add_assoc, dd_step zx zx, if_pos]; rw [← hsame (i + r) zx, ← hsame (i + r - 1) zx, show i + r - 1 = i + (r - 1) by omega]; exact (u16_eq (Decidable.not_not.1 E)).symm)), hsame, hb, zx, u⟩ zx
   refine zB (C _ _ (wp_cond_false (zA q rfl) (wp_exit (then_exit (then_exit (blk_hit (o _ _ (zF fun _ o => zH (zG (zC q rfl z) (zG (zC q rfl A) (op_slice_tail (k := kk) slt23 (zA q rfl) u.rdw zx (zA q rfl) zx (op_clear_tail slt23 rfl rfl (zA q rfl) u zx ?_))))))))))))
   intro t p u
   have := u.size
   have hb := grow_stepX hb u rfl
   have p : Own t base 56 1 v n ((clr dk kk).toList.map u16v) := p.cast rfl (clr_cs (by assumption))
   refine zB (o _ _ (zF fun _ o => zH (zG (zC q rfl z) (zG (zC q rfl A) ?_))))
   have hfull : d.toList.take (i + r) = d.toList := by rw [List.take_of_length_le]; simp; omega
   have hD : dk.toList.take kk = dd d.toList := by rw [hdd, hfull]
   have hDl : (dd d.toList).length = kk := by rw [← hD]; simp; omega
   refine op_slice_own_hi (m := kk) slt23 (zA q rfl) p (zA q rfl) zx zx ?_
   intro r p u
   have p : Own t base 56 1 r kk (((dd d.toList)).map u16v) := by (simp only [Nat.mul_one] at p; rw [← List.map_take, clr_take zx, hD] at p; exact p)
   refine zD (zA q rfl) (zB (o _ _ (wp_ret (zb (zO (zO (zb (zO ( (ret1 rfl B (zA q rfl) ⟨_, rfl, ?_⟩))))))))))
   exact ⟨hb, (u.trans rfl), by rw [hDl]; exact p⟩
  have s := of_decide_eq_false s
  refine wp_skip (a _ _ (zH (zG (zC c rfl j) (op_add (zA c rfl) rfl (add64 zx) (zD (zA c rfl) (zB ?_))))))
  -- round 8F 13T 25F
  exact zg _ c l ⟨(i + 1), rfl, (zL c rfl h), (zU c rfl).trans (congrArg (Value.int .i64) zx), zx, (dd_same zx zx hsm (fun e => s (by rw [e]))), hb, zx, O⟩ zx
 refine zB (o _ _ (wp_cond_false (zA c rfl) (wp_exit (then_exit (then_exit (blk_hit (g _ _ (zF fun _ g => zH (zG (zC c rfl h) (zD (zA c rfl) (zB (g _ _ (wp_ret (ret1 rfl l (zA c rfl) ⟨_, rfl, ?_⟩))))))))))))))
 have hzl : d.toList.length = n := by simp; assumption
 exact ⟨hb, rfl, by rw [dd_full (n := n) (by assumption) (by rw [show n = i by omega]; exact hsm), hzl]; exact O⟩
open Go.Sort (insertionSort insOuter insInner swp siftDown heapSort heapBuild heapPop scanUp scanDown partition partLoop partitionEqual partEqLoop scanSorted partialIns bitsLen partialInsertionSort shiftDown shiftUp SortedIn reverseRange reverseLoop fixDown fixUp)
theorem cloneW_ret (l : Lb) (v : Value) (w : World) (hz : l.length ≤ 1000000000000) (hl : RdC w 0 w.heap.size 1 v l.length (l.map u16v)) : Ret Tryz.prog 69 #[v] w (fun v' w' => Below w.heap.size w w' ∧ Own w' w.heap.size 56 1 v' l.length (l.map u16v)) := by
 have hb := Below.refl w.heap.size w
 refine enter (N := 8) Tryz.func69 rfl rfl (by simp) fun a hN hd hA => ?_
 have b : a.tmps.getD 0 undef = v := hA 0 (by simp)
 clear hA
 refine zF fun _ a => zH (zD rfl (zB (a _ _ (zF fun _ a => zF fun _ c => zH (zG (zC hN rfl b) ?_)))))
 have hl' := hl.keep0 (zQ hb)
 refine op_eql_nil slt23 (zA hN rfl) rfl hl' (fun g => ?_) ?_
 ·
  refine zB (c _ _ (wp_cond_true (zA hN rfl) (zF fun _ c => zH (zD rfl (zB (c _ _ (wp_ret (zO ( (ret1 rfl hd (zA hN rfl) ⟨_, rfl, ?_⟩))))))))))
  exact ⟨hb, by rw [List.length_eq_zero_iff.1 g]; exact Own.nil _ _ _ _⟩
 refine zB (c _ _ (wp_cond_false (zA hN rfl) (wp_skip (a _ _ (zF fun _ a => zH (op_bslice (e := 56) (pv := []) (cs := []) trivial zy ?_))))))
 intro m h j k c g
 obtain ⟨hb, _⟩ := yE hb g
 refine zG (zC hN rfl b) ?_
 have b := (Own.ofBx (base := w.heap.size) (sz := 1) (n := 0) c rfl zz zx)
 have hl' := hl.keep0 (zQ hb)
 refine op_append slt23 (zA hN rfl) b (zA hN rfl) (Src.ofRd Tryz.underlying23 zz hl' (one_u16 _)) (by unfold maxLen; omega) zx hb.size ?_
 intro j h c g k
 have := g.size
 have hb := below_stepO hb b g hb.size zx
 have c : Own h w.heap.size 56 1 j (0 + l.length) ((l).map u16v) := by simpa [u8v, u16v, cellsV] using c
 refine zD (zA hN rfl) (zB (a _ _ (wp_ret (ret1 rfl hd (zA hN rfl) ⟨_, rfl, ?_⟩))))
 exact ⟨hb, c.cast (by simp) (by simp)⟩
open Go.Sort (bitsLen)
theorem indexW_ret (l : Lb) (x : UInt16) (v : Value) (w : World) (hz : l.length ≤ 1000000000000) (hl : RdC w 0 w.heap.size 1 v l.length (l.map u16v)) : Ret Tryz.prog 93 #[v, (.int .u16 (x.toNat : Int))] w (fun v' w' => (∃ z : Int, v' = .int .i64 z ∧ decide (0 ≤ z) = inL x l) ∧ w' = w) := by
 have hb := Below.refl w.heap.size w
 refine enter (N := 19) Tryz.func93 rfl rfl (by simp) fun a hN hd hA => ?_
 have b : a.tmps.getD 0 undef = v := hA 0 (by simp)
 have c : a.tmps.getD 1 undef = (.int .u16 (x.toNat : Int)) := hA 1 (by simp)
 clear hA
 refine zF fun _ e => zH (zD rfl (zB (e _ _ (zF fun _ e => zF fun _ a => zH (zG (zC hN rfl b) ?_)))))
 have hl' := hl.keep0 (zQ hb)
 refine op_len_rd Tryz.underlying24 (zA hN rfl) hl' (zG rfl (zB (a _ _ (wp_block (loop_m (fun mz_ az_ w' => ∃ (i : Nat), mz_ = l.length - i ∧ (Sl az_ 0 v) ∧ (Sl az_ 1 (.int .u16 (x.toNat : Int))) ∧ (Sl az_ 7 (.int .i64 ((l.length : Nat) : Int))) ∧ (Sl az_ 8 (.int .i64 ((i : Nat) : Int))) ∧ (i ≤ l.length) ∧ (∀ g, g < i → l.getD g 0 ≠ x) ∧ w = w') _ hN hd ⟨0, rfl, (zL hN rfl b), (zL hN rfl c), (zU hN rfl), (zU hN rfl).trans (congrArg (Value.int .i64) zx), Nat.zero_le _, (fun g h => absurd h (Nat.not_lt_zero _)), rfl⟩ ?_)))))
 rintro _ m _ b c ⟨i, rfl, k, j, h, g, hi, hno, rfl⟩
 refine zF fun _ a => zH (op_lss (zC b rfl g) (zC b rfl h) (fun m => ?_) (fun m => ?_))
 ·
  refine zB (a _ _ (zF fun _ a => wp_cond_true (zA b rfl) (wp_skip (a _ _ (zF fun _ a => wp_block (zF fun _ m => ?_))))))
  refine zH (zG (zC b rfl g) (zD (zA b rfl) (zB (m _ _ (zF fun _ m => zH (zG (zC b rfl j) (zG (zC b rfl k) (zG (zA b rfl) (zh slt24 (zA b rfl) hl' (zA b rfl) zx zx ?_)))))))))
  intro s r p q o
  refine zN (v := (Value.int .u16 ((l.getD i 0).toNat : Int))) one56 (zA b rfl) (by have := o 0 (.int .u16 ((l.getD i 0).toNat : Int)) zz (el_u16 (i := i) zx zx); simpa using this) (op_eql (zA b rfl) (zA b rfl) (fun p => ?_) (fun p => ?_))
  ·
   refine zB (m _ _ (wp_cond_true (zA b rfl) (zF fun _ m => zH (zG (zA b rfl) (zD (zA b rfl) (zB (m _ _ (wp_ret (zb (zO (zO (zb (zO ( (ret1 rfl c (zA b rfl) ⟨_, rfl, ?_⟩)))))))))))))))
   exact ⟨⟨_, rfl, by rw [in_t (i := i) zx (u16_eq p).symm]; exact decide_eq_true zx⟩, rfl⟩
  refine zB (m _ _ (wp_cond_false (zA b rfl) (wp_skip (a _ _ (zH (op_add (zC b rfl g) rfl (add64 zx) (zG (zA b rfl) (zB ?_))))))))
  -- round 9T 16F
  exact zg _ b c ⟨i + 1, rfl, (zL b rfl k), (zL b rfl j), (zL b rfl h), (zU b rfl).trans (congrArg (Value.int .i64) zx), zx, (no_step hno (fun g => p (by rw [g]))), rfl⟩ zx
 refine zB (a _ _ (zF fun _ a => wp_cond_false (zA b rfl) (wp_exit (then_exit (then_exit (blk_hit (e _ _ (zF fun _ e => zH (zD rfl (zB (e _ _ (wp_ret (ret1 rfl c (zA b rfl) ⟨_, rfl, ?_⟩)))))))))))))
 exact ⟨⟨_, rfl, by rw [in_f (i := i) zx hno]; rfl⟩, rfl⟩

theorem contW_ret (l : Lb) (x : UInt16) (v : Value) (w : World) (hz : l.length ≤ 1000000000000) (hl : RdC w 0 w.heap.size 1 v l.length (l.map u16v)) : Ret Tryz.prog 90 #[v, (.int .u16 (x.toNat : Int))] w (fun v' w' => v' = .bool (inL x l) ∧ w' = w) := by
 have hb := Below.refl w.heap.size w
 refine enter (N := 9) Tryz.func90 rfl rfl (by simp) fun a hN hd hA => ?_
 have b : a.tmps.getD 0 undef = v := hA 0 (by simp)
 have c : a.tmps.getD 1 undef = (.int .u16 (x.toNat : Int)) := hA 1 (by simp)
 clear hA
 refine zF fun _ a => zH (zD rfl (zB (a _ _ (zF fun _ a => zH (zG (zC hN rfl b) (zG (zC hN rfl c) ?_))))))
 have hl' := hl.keep0 (zQ hb)
 refine ze (vs := [v, (.int .u16 (x.toNat : Int))]) ok93 ⟨(zA hN rfl), ⟨(zA hN rfl), trivial⟩⟩ (Ret.flip (indexW_ret l x _ _ zx (show RdC w 0 w.heap.size 1 v l.length (l.map u16v) from by have hh : RdC w 0 w.heap.size 1 _ _ _ := (hl'.mono (L' := 0) (B' := w.heap.size) (Nat.zero_le _) zx); first | exact hh | exact hh.cast (by first | omega | (simp; try omega)) (by first | rfl | simp [u16v])))) ?_
 rintro _ _ ⟨⟨c, rfl, b⟩, rfl⟩
 refine op_geq (zA hN rfl) rfl (fun c => ?_) (fun c => ?_)
 ·
  refine zD (zA hN rfl) (zB (a _ _ (wp_ret (ret1 rfl hd (zA hN rfl) ⟨_, rfl, ?_⟩))))
  exact ⟨congrArg Value.bool (by rw [← b]; simp; omega), rfl⟩
 refine zD (zA hN rfl) (zB (a _ _ (wp_ret (ret1 rfl hd (zA hN rfl) ⟨_, rfl, ?_⟩))))
 exact ⟨congrArg Value.bool (by rw [← b]; simp; omega), rfl⟩

theorem rinW_ret (l : Lb) (x : UInt16) (v : Value) (w : World) (hz : l.length ≤ 1000000000000) (hl : RdC w 0 w.heap.size 1 v l.length (l.map u16v)) : Ret Tryz.prog 83 #[v, (.int .u16 (x.toNat : Int))] w (fun v' w' => v' = .bool (inL x l) ∧ w' = w) := by
 have hb := Below.refl w.heap.size w
 refine enter (N := 18) Tryz.func83 rfl rfl (by simp) fun a hN hd hA => ?_
 have b : a.tmps.getD 0 undef = v := hA 0 (by simp)
 have c : a.tmps.getD 1 undef = (.int .u16 (x.toNat : Int)) := hA 1 (by simp)
 clear hA
 refine zF fun _ a => ?_
 refine zH (zD rfl (zB (a _ _ (zF fun _ a => zF fun _ e => zH (zD rfl (zB (e _ _ (wp_block (loop_m (fun mz_ az_ w' => ∃ (i : Nat), mz_ = l.length - i ∧ (Sl az_ 0 v) ∧ (Sl az_ 1 (.int .u16 (x.toNat : Int))) ∧ (Sl az_ 5 (.int .i64 ((i : Nat) : Int))) ∧ (i ≤ l.length) ∧ (∀ g, g < i → l.getD g 0 ≠ x) ∧ w = w') _ hN hd ⟨0, rfl, (zL hN rfl b), (zL hN rfl c), (zU hN rfl).trans (congrArg (Value.int .i64) zx), Nat.zero_le _, (fun g h => absurd h (Nat.not_lt_zero _)), rfl⟩ ?_)))))))))
 rintro _ k _ b g ⟨i, rfl, c, j, h, hi, hno, rfl⟩
 refine zF fun _ e => zF fun _ k => zH (zG (zC b rfl h) (zG (zC b rfl c) ?_))
 have hl' := hl.keep0 (zQ hb)
 refine op_len_rd Tryz.underlying23 (zA b rfl) hl' (op_lss (zA b rfl) (zA b rfl) (fun m => ?_) (fun m => ?_))
 ·
  refine zB (k _ _ (wp_cond_true (zA b rfl) (wp_skip (e _ _ (zF fun _ e => wp_block (zF fun _ k => zH (zG (zC b rfl c) (zG (zC b rfl h) (zh slt23 (zA b rfl) hl' (zA b rfl) zx zx ?_)))))))))
  intro p q r o m
  refine zN (v := (Value.int .u16 ((l.getD i 0).toNat : Int))) one56 (zA b rfl) (by have := m 0 (.int .u16 ((l.getD i 0).toNat : Int)) zz (el_u16 (i := i) zx zx); simpa using this) (zG (zC b rfl j) (op_eql (zA b rfl) (zA b rfl) (fun o => ?_) (fun o => ?_)))
  ·
   refine zB (k _ _ (wp_cond_true (zA b rfl) (zF fun _ k => zH (zD rfl (zB (k _ _ (wp_ret (zb (zO (zO (zb (zO ( (ret1 rfl g (zA b rfl) ⟨_, rfl, ?_⟩))))))))))))))
   exact ⟨congrArg Value.bool (in_t (i := i) zx (u16_eq o)).symm, rfl⟩
  refine zB (k _ _ (wp_cond_false (zA b rfl) (wp_skip (e _ _ (zH (zG (zC b rfl h) (op_add (zA b rfl) rfl (add64 zx) (zD (zA b rfl) (zB ?_)))))))))
  -- round 9T 17F
  exact zg _ b g ⟨i + 1, rfl, (zL b rfl c), (zL b rfl j), (zU b rfl).trans (congrArg (Value.int .i64) zx), zx, (no_step hno (fun e => o (by rw [e]))), rfl⟩ zx
 refine zB (k _ _ (wp_cond_false (zA b rfl) (wp_exit (then_exit (then_exit (blk_hit (a _ _ (zF fun _ a => zH (zD rfl (zB (a _ _ (wp_ret (ret1 rfl g (zA b rfl) ⟨_, rfl, ?_⟩)))))))))))))
 exact ⟨congrArg Value.bool (in_f (i := i) zx hno).symm, rfl⟩

theorem minus1W_ret (x : UInt16) (m : Lb) (u : Value) (bc : Nat) (w : World) (hzm : m.length ≤ 1000000000000) (hbc : Bx w bc 24 [u]) (hm : RdC w 0 w.heap.size 1 u m.length (m.map u16v)) : Ret Tryz.prog 89 #[(.int .u16 (x.toNat : Int)), (ptr bc 0)] w (fun v' w' => v' = .bool (ninL x m) ∧ w' = w) := by
 have hb := Below.refl w.heap.size w
 refine enter (N := 8) Tryz.func89 rfl rfl (by simp) fun a hN hd hA => ?_
 have b : a.tmps.getD 0 undef = (.int .u16 (x.toNat : Int)) := hA 0 (by simp)
 have c : a.tmps.getD 1 undef = (ptr bc 0) := hA 1 (by simp)
 clear hA
 refine zF fun _ a => zH (zD rfl (zB (a _ _ (zF fun _ a => zH (zN one24 (zC hN rfl c) (hbc.cell rfl) (zG (zC hN rfl b) ?_))))))
 have hm' := hm.keep0 (zQ hb)
 refine ze (vs := [u, (.int .u16 (x.toNat : Int))]) ok90 ⟨(zA hN rfl), ⟨(zA hN rfl), trivial⟩⟩ (Ret.flip (contW_ret m x _ _ zx (show RdC w 0 w.heap.size 1 u m.length (m.map u16v) from by have hh : RdC w 0 w.heap.size 1 _ _ _ := (hm'.mono (L' := 0) (B' := w.heap.size) (Nat.zero_le _) zx); first | exact hh | exact hh.cast (by first | omega | (simp; try omega)) (by first | rfl | simp [u16v])))) ?_
 rintro _ _ ⟨rfl, rfl⟩
 refine op_not (zA hN rfl) (zD (zA hN rfl) (zB (a _ _ (wp_ret (ret1 rfl hd (zA hN rfl) ⟨_, rfl, ?_⟩)))))
 exact ⟨rfl, rfl⟩

theorem those52_ret (l : Lb) (v : Value) (m : Lb) (u : Value) (bc : Nat) (w : World) (hz : l.length ≤ 1000000000000) (hl : RdC w 0 w.heap.size 1 v l.length (l.map u16v)) (hzm : m.length ≤ 1000000000000) (hbc : Bx w bc 24 [u]) (hm : RdC w 0 w.heap.size 1 u m.length (m.map u16v)) : Ret Tryz.prog 88 #[v, (.func (.func 89) #[] #[(ptr bc 0)])] w (fun v' w' => Below w.heap.size w w' ∧ Own w' w.heap.size 56 1 v' (l.filter (fun x => ninL x m)).length ((l.filter (fun x => ninL x m)).map u16v)) := by
 have hbc_lt := hbc.lt
 have hb := Below.refl w.heap.size w
 refine enter (N := 23) Tryz.func88 rfl rfl (by simp) fun a hN hd hA => ?_
 have b : a.tmps.getD 0 undef = v := hA 0 (by simp)
 have c : a.tmps.getD 1 undef = (.func (.func 89) #[] #[(ptr bc 0)]) := hA 1 (by simp)
 clear hA
 refine zF fun _ a => zH ?_
 refine zD rfl (zB (a _ _ (zF fun _ a => zH (zD rfl (zB (a _ _ (zF fun _ a => zF fun _ g => zH (zG (zC hN rfl b) ?_))))))))
 have hl' := hl.keep0 (zQ hb)
 refine op_len_rd Tryz.underlying23 (zA hN rfl) hl' (zG rfl (zB (g _ _ (wp_block (loop_m (fun mz_ az_ w' => ∃ (i : Nat) (r : Value), mz_ = l.length - i ∧ (Sl az_ 1 (.func (.func 89) #[] #[(ptr bc 0)])) ∧ (Sl az_ 4 (.slice none 0 0)) ∧ (Sl az_ 8 v) ∧ (Sl az_ 9 (.int .i64 ((l.length : Nat) : Int))) ∧ (Sl az_ 10 (.int .i64 ((i : Nat) : Int))) ∧ (Sl az_ 5 r) ∧ (i ≤ l.length) ∧ (((l.take i).filter (fun x => ninL x m)).length ≤ i) ∧ (Below w.heap.size w w') ∧ (w.heap.size ≤ w'.heap.size) ∧ (Bx w' bc 24 [u]) ∧ (Own w' w.heap.size 56 1 r ((l.take i).filter (fun x => ninL x m)).length (((l.take i).filter (fun x => ninL x m)).map u16v))) _ hN hd ⟨0, _, rfl, (zL hN rfl c), (zU hN rfl), (zU hN rfl), (zU hN rfl), (zU hN rfl), (zU hN rfl), Nat.zero_le _, (by simp), hb, (Nat.le_refl _), hbc, (Own.nil _ _ _ _)⟩ ?_)))))
 rintro _ y h b q ⟨i, r, rfl, k, t, s, p, j, o, hi, hfl, hb, z, hbc, c⟩
 have := hb.size
 refine zF fun _ g => zH (op_lss (zC b rfl j) (zC b rfl p) (fun y => ?_) (fun y => ?_))
 ·
  refine zB (g _ _ (zF fun _ g => wp_cond_true (zA b rfl) (wp_skip (g _ _ (zF fun _ g => wp_block (zF fun _ y => zH ?_))))))
  have hl' := hl.keep0 (zQ hb)
  refine zh slt23 (zC b rfl s) hl' (zC b rfl j) zx zx ?_
  intro B C D A z
  refine zN (v := (Value.int .u16 ((l.getD i 0).toNat : Int))) one56 (zA b rfl) (by have := z 0 (.int .u16 ((l.getD i 0).toNat : Int)) zz (el_u16 (i := i) zx zx); simpa using this) (zD (zA b rfl) (zB (y _ _ (zF fun _ y => zH (zG (zC b rfl k) (zG (zA b rfl) ?_))))))
  have hm' := hm.keep0 (zQ hb)
  refine op_fnv (fs := []) (vs := [(.int .u16 ((l.getD i 0).toNat : Int))]) (cs := [(ptr bc 0)]) (zA b rfl) ok89 ⟨(zA b rfl), trivial⟩ (Ret.flip (minus1W_ret (l.getD i 0) m _ _ _ zx hbc (show RdC h 0 h.heap.size 1 u m.length (m.map u16v) from by have hh : RdC h 0 h.heap.size 1 _ _ _ := (hm'.mono (L' := 0) (B' := h.heap.size) (Nat.zero_le _) zx); first | exact hh | exact hh.cast (by first | omega | (simp; try omega)) (by first | rfl | simp [u16v])))) ?_
  rintro _ _ ⟨rfl, rfl⟩
  rcases Bool.eq_false_or_eq_true ((ninL (l.getD i 0) m)) with h | h
  ·
   rw [h]
   refine zB (y _ _ (wp_cond_true (zA b rfl) (zH (zG (zC b rfl o) (zG (zA b rfl) (op_bslice (e := 56) (pv := [(0, (.int .u16 ((l.getD i 0).toNat : Int)))]) (cs := [(.int .u16 ((l.getD i 0).toNat : Int))]) ⟨rfl, (zA b rfl), trivial⟩ zy ?_))))))
   intro B E D C A z
   obtain ⟨hb, _⟩ := yE hb z
   have c := c.keep0 z
   have B := c
   refine op_append slt23 (zA b rfl) B (zA b rfl) (Src.ofRd Tryz.underlying23 zz (RdC.ofBx (sz := 1) (n := 1) A rfl zz) (by simp [Value.oneCell', u8v])) (by unfold maxLen; omega) zx hb.size ?_
   intro E D A C F
   have := C.size
   have hbc := (hbc.keep0 z).keepO B C zz
   have hb := below_stepO hb B C hb.size zx
   have A : Own D w.heap.size 56 1 E (((l.take i).filter (fun x => ninL x m)).length + 1) (((((l.take i).filter (fun x => ninL x m)) ++ [(l.getD i 0)])).map u16v) := by simpa [u8v, u16v, cellsV] using A
   refine zD (zA b rfl) (zB (g _ _ (zH (op_add (zC b rfl j) rfl (add64 zx) (zG (zA b rfl) (zB ?_))))))
   -- round 11T 16T
   exact zg _ b q ⟨i + 1, _, rfl, (zL b rfl k), (zL b rfl t), (zL b rfl s), (zL b rfl p), (zU b rfl).trans (congrArg (Value.int .i64) zx), (zU b rfl), zx, (by first | exact filter_le), hb, zx, hbc, (A.cast (by rw [filter_t zx h]; try simp) (by rw [filter_t zx h]; try simp [u16v]))⟩ zx
  rw [h]
  refine zB (y _ _ (wp_cond_false (zA b rfl) (wp_skip (g _ _ (zH (op_add (zC b rfl j) rfl (add64 zx) (zG (zA b rfl) (zB ?_))))))))
  -- round 11T 16F
  exact zg _ b q ⟨i + 1, _, rfl, (zL b rfl k), (zL b rfl t), (zL b rfl s), (zL b rfl p), (zU b rfl).trans (congrArg (Value.int .i64) zx), (zL b rfl o), zx, (by first | exact filter_le), hb, zx, hbc, (c.cast (by rw [filter_f zx h]) (by rw [filter_f zx h]))⟩ zx
 refine zB (g _ _ (zF fun _ g => wp_cond_false (zA b rfl) (wp_exit (then_exit (then_exit (blk_hit (a _ _ (zF fun _ a => zH (zG (zC b rfl o) (zD (zA b rfl) (zB (a _ _ (wp_ret (ret1 rfl q (zA b rfl) ⟨_, rfl, ?_⟩))))))))))))))
 rw [take_all l zx] at c
 exact ⟨hb, c⟩

theorem minusW_ret (l m : Lb) (v u : Value) (w : World) (hz : l.length ≤ 1000000000000) (hzm : m.length ≤ 1000000000000) (hl : RdC w 0 w.heap.size 1 v l.length (l.map u16v)) (hm : RdC w 0 w.heap.size 1 u m.length (m.map u16v)) : Ret Tryz.prog 85 #[v, u] w (fun v' w' => Below w.heap.size w w' ∧ Own w' w.heap.size 56 1 v' (minusL l m).length ((minusL l m).map u16v)) := by
 have hb := Below.refl w.heap.size w
 refine enter (N := 8) Tryz.func85 rfl rfl (by simp) fun a hN hd hA => ?_
 have b : a.tmps.getD 0 undef = v := hA 0 (by simp)
 have c : a.tmps.getD 1 undef = u := hA 1 (by simp)
 clear hA
 refine zF fun _ a => zH ?_
 have hm' := hm.keep0 (zQ hb)
 refine op_box (cs := [u]) (zC hN rfl c) (RdC.cells hm') ?_
 intro c e k j h g
 obtain ⟨hb, _⟩ := yE hb g
 refine zD rfl (zB (a _ _ (zF fun _ a => zH (zG (zC hN rfl b) (op_mkfn (cv := [(ptr e 0)]) ⟨(zA hN rfl), trivial⟩ ?_)))))
 have hl' := hl.keep0 (zQ hb)
 have hm' := hm.keep0 (zQ hb)
 refine zj ok88 (those52_ret l _ m _ _ _ zx (show RdC c 0 c.heap.size 1 v l.length (l.map u16v) from by have hh : RdC c 0 c.heap.size 1 _ _ _ := (hl'.mono (L' := 0) (B' := c.heap.size) (Nat.zero_le _) zx); first | exact hh | exact hh.cast (by first | omega | (simp; try omega)) (by first | rfl | simp [u16v])) zx h (show RdC c 0 c.heap.size 1 u m.length (m.map u16v) from by have hh : RdC c 0 c.heap.size 1 _ _ _ := (hm'.mono (L' := 0) (B' := c.heap.size) (Nat.zero_le _) zx); first | exact hh | exact hh.cast (by first | omega | (simp; try omega)) (by first | rfl | simp [u16v]))) ⟨(zA hN rfl), ⟨(zA hN rfl), trivial⟩⟩ ?_
 rintro e g ⟨c, b⟩
 have c := zQ c
 obtain ⟨hb, _⟩ := yE hb c
 have b := b.mono (base' := w.heap.size) zx
 refine zD (zA hN rfl) (zB (a _ _ (wp_ret (ret1 rfl hd (zA hN rfl) ⟨_, rfl, ?_⟩))))
 exact ⟨hb, b⟩

theorem flowsW_ret (l m : Lb) (v u : Value) (w : World) (hz : l.length ≤ 1000000000000) (hzm : m.length ≤ 1000000000000) (hl : RdC w 0 w.heap.size 1 v l.length (l.map u16v)) (hm : RdC w 0 w.heap.size 1 u m.length (m.map u16v)) : Ret Tryz.prog 78 #[v, u] w (fun v' w' => Below w.heap.size w w' ∧ v' = .bool (flowsL l m)) := by
 have hb := Below.refl w.heap.size w
 refine enter (N := 10) Tryz.func78 rfl rfl (by simp) fun a hN hd hA => ?_
 have b : a.tmps.getD 0 undef = v := hA 0 (by simp)
 have c : a.tmps.getD 1 undef = u := hA 1 (by simp)
 clear hA
 refine zF fun _ a => zH (zD rfl (zB (a _ _ (zF fun _ a => zH (zG (zC hN rfl b) (zG (zC hN rfl c) ?_))))))
 have hl' := hl.keep0 (zQ hb)
 have hm' := hm.keep0 (zQ hb)
 refine zj ok85 (minusW_ret l m _ _ _ (by first | assumption | omega | (simp only [List.length_append, List.length_cons, List.length_nil, List.length_drop, List.length_take]; omega) | (dsimp only; omega) | decide | (simp [keyV, be8_len]; done)) (by first | assumption | omega | (simp only [List.length_append, List.length_cons, List.length_nil, List.length_drop, List.length_take]; omega) | (dsimp only; omega) | decide | (simp [keyV, be8_len]; done)) (show RdC w 0 w.heap.size 1 v l.length (l.map u16v) from by have hh : RdC w 0 w.heap.size 1 _ _ _ := (hl'.mono (L' := 0) (B' := w.heap.size) (Nat.zero_le _) zx); first | exact hh | exact hh.cast (by first | omega | (simp; try omega)) (by first | rfl | simp [u16v])) (show RdC w 0 w.heap.size 1 u m.length (m.map u16v) from by have hh : RdC w 0 w.heap.size 1 _ _ _ := (hm'.mono (L' := 0) (B' := w.heap.size) (Nat.zero_le _) zx); first | exact hh | exact hh.cast (by first | omega | (simp; try omega)) (by first | rfl | simp [u16v]))) ⟨(zA hN rfl), ⟨(zA hN rfl), trivial⟩⟩ ?_
 rintro g e ⟨b, c⟩
 have b := zQ b
 obtain ⟨hb, _⟩ := yE hb b
 have c := c.mono (base' := w.heap.size) zx
 refine op_len_rd Tryz.underlying24 (zA hN rfl) c.rdw (op_eql (zA hN rfl) rfl (fun b => ?_) (fun b => ?_))
 ·
  refine zD (zA hN rfl) (zB (a _ _ (wp_ret (ret1 rfl hd (zA hN rfl) ⟨_, rfl, ?_⟩))))
  exact ⟨hb, congrArg Value.bool (by rw [flows_minus]; symm; first | exact decide_eq_true zx | exact decide_eq_false zx)⟩
 refine zD (zA hN rfl) (zB (a _ _ (wp_ret (ret1 rfl hd (zA hN rfl) ⟨_, rfl, ?_⟩))))
 exact ⟨hb, congrArg Value.bool (by rw [flows_minus]; symm; first | exact decide_eq_true zx | exact decide_eq_false zx)⟩
open Go.Sort (bitsLen)
theorem rflowsW_ret (l m : Lb) (v u : Value) (w : World) (hz : l.length ≤ 1000000000000) (hzm : m.length ≤ 1000000000000) (hl : RdC w 0 w.heap.size 1 v l.length (l.map u16v)) (hm : RdC w 0 w.heap.size 1 u m.length (m.map u16v)) : Ret Tryz.prog 58 #[v, u] w (fun v' w' => Below w.heap.size w w' ∧ v' = .bool (flowsL l m)) := by
 have hb := Below.refl w.heap.size w
 refine enter (N := 19) Tryz.func58 rfl rfl (by simp) fun a hN hd hA => ?_
 have b : a.tmps.getD 0 undef = v := hA 0 (by simp)
 have c : a.tmps.getD 1 undef = u := hA 1 (by simp)
 clear hA
 refine zF fun _ a => ?_
 refine zH (zD rfl (zB (a _ _ (zF fun _ a => zF fun _ e => zH (zD rfl (zB (e _ _ (wp_block (loop_m (fun mz_ az_ w' => ∃ (i : Nat), mz_ = l.length - i ∧ (Sl az_ 0 v) ∧ (Sl az_ 1 u) ∧ (Sl az_ 5 (.int .i64 ((i : Nat) : Int))) ∧ (i ≤ l.length) ∧ ((l.take i).all (fun x => inL x m) = true) ∧ w = w') _ hN hd ⟨0, rfl, (zL hN rfl b), (zL hN rfl c), (zU hN rfl).trans (congrArg (Value.int .i64) zx), Nat.zero_le _, rfl, rfl⟩ ?_)))))))))
 rintro _ k _ b g ⟨i, rfl, h, j, c, hi, hall, rfl⟩
 refine zF fun _ e => zF fun _ k => zH (zG (zC b rfl c) (zG (zC b rfl h) ?_))
 have hl' := hl.keep0 (zQ hb)
 refine op_len_rd Tryz.underlying24 (zA b rfl) hl' (op_lss (zA b rfl) (zA b rfl) (fun o => ?_) (fun o => ?_))
 ·
  refine zB (k _ _ (wp_cond_true (zA b rfl) (wp_skip (e _ _ (zF fun _ e => wp_block (zF fun _ k => zH (zG (zC b rfl j) (zG (zC b rfl h) (zG (zC b rfl c) (zh slt24 (zA b rfl) hl' (zA b rfl) zx zx ?_))))))))))
  intro s r p q o
  refine zN (v := (Value.int .u16 ((l.getD i 0).toNat : Int))) one56 (zA b rfl) (by have := o 0 (.int .u16 ((l.getD i 0).toNat : Int)) zz (el_u16 (i := i) zx zx); simpa using this) ?_
  have hm' := hm.keep0 (zQ hb)
  refine ze (vs := [u, (.int .u16 ((l.getD i 0).toNat : Int))]) ok83 ⟨(zA b rfl), ⟨(zA b rfl), trivial⟩⟩ (Ret.flip (rinW_ret m (l.getD i 0) _ _ zx (show RdC w 0 w.heap.size 1 u m.length (m.map u16v) from by have hh : RdC w 0 w.heap.size 1 _ _ _ := (hm'.mono (L' := 0) (B' := w.heap.size) (Nat.zero_le _) zx); first | exact hh | exact hh.cast (by first | omega | (simp; try omega)) (by first | rfl | simp [u16v])))) ?_
  rintro _ _ ⟨rfl, rfl⟩
  rcases Bool.eq_false_or_eq_true ((inL (l.getD i 0) m)) with o | o
  ·
   rw [o]
   refine op_not (zA b rfl) (zB (k _ _ (wp_cond_false (zA b rfl) (wp_skip (e _ _ (zH (zG (zC b rfl c) (op_add (zA b rfl) rfl (add64 zx) (zD (zA b rfl) (zB ?_))))))))))
   -- round 9T 17T
   exact zg _ b g ⟨i + 1, rfl, (zL b rfl h), (zL b rfl j), (zU b rfl).trans (congrArg (Value.int .i64) zx), zx, (all_step zx hall o), rfl⟩ zx
  rw [o]
  refine op_not (zA b rfl) (zB (k _ _ (wp_cond_true (zA b rfl) (zF fun _ k => zH (zD rfl (zB (k _ _ (wp_ret (zb (zO (zO (zb (zO ( (ret1 rfl g (zA b rfl) ⟨_, rfl, ?_⟩)))))))))))))))
  exact ⟨hb, congrArg Value.bool (all_f (i := i) zx o).symm⟩
 refine zB (k _ _ (wp_cond_false (zA b rfl) (wp_exit (then_exit (then_exit (blk_hit (a _ _ (zF fun _ a => zH (zD rfl (zB (a _ _ (wp_ret (ret1 rfl g (zA b rfl) ⟨_, rfl, ?_⟩)))))))))))))
 exact ⟨hb, congrArg Value.bool (all_end (i := i) zx hall).symm⟩
open Go.Sort (bitsLen)
set_option maxHeartbeats 2000000 in
theorem rallW_ret (l : Lb) (v : Value) (w : World) (hz : l.length ≤ 1000000000000) (hl : RdC w 0 w.heap.size 1 v l.length (l.map u16v)) : Ret Tryz.prog 59 #[v] w (fun v' w' => Below w.heap.size w w' ∧ Own w' w.heap.size 56 1 v' (nrm l).length ((nrm l).map u16v)) := by
 have hb := Below.refl w.heap.size w
 refine enter (N := 60) Tryz.func59 rfl rfl (by simp) fun a hN hd hA => ?_
 have g : a.tmps.getD 0 undef = v := hA 0 (by simp)
 clear hA
 refine zF fun _ a => zH (zD rfl (zB (a _ _ (zF fun _ a => ?_))))
 refine zH (zD rfl (zB (a _ _ (zF fun _ a => zF fun _ m => zH (zD rfl (zB (m _ _ (wp_block (loop_m (fun mz_ az_ w' => ∃ (i : Nat) (r : Value), mz_ = l.length - i ∧ (Sl az_ 0 v) ∧ (Sl az_ 2 (.slice none 0 0)) ∧ (Sl az_ 4 (.int .i64 ((i : Nat) : Int))) ∧ (Sl az_ 3 r) ∧ (i ≤ l.length) ∧ ((nrm (l.take i)).length ≤ i) ∧ (Below w.heap.size w w') ∧ (w.heap.size ≤ w'.heap.size) ∧ (Own w' w.heap.size 56 1 r (nrm (l.take i)).length ((nrm (l.take i)).map u16v))) _ hN hd ⟨0, _, rfl, (zL hN rfl g), (zU hN rfl), (zU hN rfl).trans (congrArg (Value.int .i64) zx), (zU hN rfl), Nat.zero_le _, (by simp [nrm]), hb, (Nat.le_refl _), (Own.nil _ _ _ _)⟩ ?_)))))))))
 rintro _ B o p t ⟨i, r, rfl, y, A, s, z, hi, hfl, hb, D, g⟩
 have := hb.size
 refine zF fun _ m => zF fun _ B => zH (zG (zC p rfl s) (zG (zC p rfl y) ?_))
 have hl' := hl.keep0 (zQ hb)
 refine op_len_rd Tryz.underlying23 (zA p rfl) hl' (op_lss (zA p rfl) (zA p rfl) (fun D => ?_) (fun D => ?_))
 ·
  refine zB (B _ _ (wp_cond_true (zA p rfl) (wp_skip (m _ _ (zF fun _ m => wp_block (zF fun _ B => zH (zD rfl (zB (B _ _ (zF fun _ B => wp_block (loop_m (fun mz_ az_ w' => ∃ (jj : Nat), mz_ = (nrm (l.take i)).length - jj ∧ (Sl az_ 0 v) ∧ (Sl az_ 2 (.slice none 0 0)) ∧ (Sl az_ 3 r) ∧ (Sl az_ 4 (.int .i64 ((i : Nat) : Int))) ∧ (Sl az_ 5 (.int .i64 ((jj : Nat) : Int))) ∧ (jj ≤ (nrm (l.take i)).length) ∧ (∀ F, F < jj → ((nrm (l.take i)).getD F 0).toNat < (l.getD i 0).toNat) ∧ (Below w.heap.size w w') ∧ (o.heap.size ≤ w'.heap.size) ∧ (Own w' w.heap.size 56 1 r (nrm (l.take i)).length ((nrm (l.take i)).map u16v))) _ p t ⟨0, rfl, (zL p rfl y), (zL p rfl A), (zL p rfl z), (zL p rfl s), (zU p rfl).trans (congrArg (Value.int .i64) zx), Nat.zero_le _, (fun F D => absurd D (Nat.not_lt_zero _)), hb, (Nat.le_refl _), g⟩ ?_)))))))))))
  rintro _ J L s H ⟨jj, rfl, F, I, y, G, A, hj, hlt, hb, K, g⟩
  have := hb.size
  refine zF fun _ K => zF fun _ J => reg_still mixed zy ?_
  intro M L
  obtain ⟨hb, _⟩ := yE hb L
  have g := g.keep0 L
  refine st_step rfl (fun _ D => zG (zC s rfl A) D) (st_step rfl (fun _ D => zG (zC s rfl y) D) (st_step rfl (fun _ D => op_len_rd Tryz.underlying24 (zA s rfl) g.rdw D) ?_))
  by_cases L : ((jj : Nat) : Int) < (((nrm (l.take i)).length : Nat) : Int)
  ·
   refine st_step rfl (fun _ D => op_cmp (b := true) (zA s rfl) (zA s rfl) (b_lss (decide_eq_true L)) D) (st_step rfl (fun _ D => zG (zA s rfl) D) (st_g_true (j := 4) (dj := 16) (b := true) rfl rfl rfl (zA s rfl) (st_step rfl (fun _ D => zG (zC s rfl y) D) (st_g_true (j := 4) (dj := 16) (b := true) rfl rfl rfl (zA s rfl) (st_step rfl (fun _ D => zG (zC s rfl A) D) (st_g_true (j := 4) (dj := 16) (b := true) rfl rfl rfl (zA s rfl) (st_index_rd slt24 (zA s rfl) g.rdw (zA s rfl) zx zx ?_)))))))
   intro S Q R P O
   refine st_g_true (j := 4) (dj := 16) (b := true) rfl rfl rfl (zA s rfl) (st_step rfl (fun _ D => zN (v := (Value.int .u16 (((nrm (l.take i)).getD jj 0).toNat : Int))) one56 (zA s rfl) (by have := O 0 (.int .u16 (((nrm (l.take i)).getD jj 0).toNat : Int)) zz (el_u16 (i := jj) zx zx); simpa using this) D) (st_g_true (j := 4) (dj := 16) (b := true) rfl rfl rfl (zA s rfl) (st_step rfl (fun _ D => zG (zC s rfl F) D) (st_g_true (j := 4) (dj := 16) (b := true) rfl rfl rfl (zA s rfl) (st_step rfl (fun _ D => zG (zC s rfl G) D) (st_g_true (j := 4) (dj := 16) (b := true) rfl rfl rfl (zA s rfl) ?_))))))
   have hl' := hl.keep0 (zQ hb)
   refine st_index_rd slt23 (zA s rfl) hl' (zA s rfl) zx zx ?_
   intro S Q P R O
   refine st_g_true (j := 4) (dj := 16) (b := true) rfl rfl rfl (zA s rfl) (st_step rfl (fun _ D => zN (v := (Value.int .u16 ((l.getD i 0).toNat : Int))) one56 (zA s rfl) (by have := O 0 (.int .u16 ((l.getD i 0).toNat : Int)) zz (el_u16 (i := i) zx zx); simpa using this) D) (st_g_true (j := 4) (dj := 16) (b := true) rfl rfl rfl (zA s rfl) (st_step rfl (fun _ D => op_cmp (b := (decide ((((nrm (l.take i)).getD jj 0).toNat : Int) < ((l.getD i 0).toNat : Int)))) (zA s rfl) (zA s rfl) (b_lss rfl) D) (st_step rfl (fun _ D => zc (zA s rfl) (zA s rfl) D) (st_nil (J _ _ (wp_cond_split (zA s rfl) (fun P => ?_) (fun P => ?_))))))))
   ·
    have P := of_decide_eq_true P
    refine wp_skip (K _ _ (wp_block (zH (zG (zC s rfl A) (op_add (zA s rfl) rfl (add64 zx) (zD (zA s rfl) (zB (blk_normal ?_))))))))
    -- round 9T 15T 26T
    exact zg _ s H ⟨jj + 1, rfl, (zL s rfl F), (zL s rfl I), (zL s rfl y), (zL s rfl G), (zU s rfl).trans (congrArg (Value.int .i64) zx), zx, (lt_step hlt zx), hb, zx, g⟩ zx
   have P := of_decide_eq_false P
   refine wp_exit (then_exit (then_exit (blk_hit (B _ _ (seq_join1 (N := 60) (fun az_ w' => (Sl az_ 0 v) ∧ (Sl az_ 2 (.slice none 0 0)) ∧ (Sl az_ 3 r) ∧ (Sl az_ 4 (.int .i64 ((i : Nat) : Int))) ∧ (Sl az_ 5 (.int .i64 ((jj : Nat) : Int))) ∧ (Sl az_ 43 (.bool (decide (jj = (nrm (l.take i)).length ∨ ((nrm (l.take i)).getD jj 0).toNat ≠ (l.getD i 0).toNat)))) ∧ (Below w.heap.size w w') ∧ (M.heap.size ≤ w'.heap.size) ∧ (Own w' w.heap.size 56 1 r (nrm (l.take i)).length ((nrm (l.take i)).map u16v))) (fun K => ?_) ?_)))))
   ·
    refine zF fun _ B => reg_still mixed zy ?_
    intro P O
    obtain ⟨hb, _⟩ := yE hb O
    have g := g.keep0 O
    refine st_step rfl (fun _ D => zG (zC s rfl A) D) (st_step rfl (fun _ D => zG (zC s rfl y) D) (st_step rfl (fun _ D => op_len_rd Tryz.underlying24 (zA s rfl) g.rdw D) ?_))
    by_cases O : ((jj : Nat) : Int) = (((nrm (l.take i)).length : Nat) : Int)
    ·
     refine st_step rfl (fun _ D => op_cmp (b := true) (zA s rfl) (zA s rfl) (b_eql (decide_eq_true O)) D) (st_step rfl (fun _ D => zG (zA s rfl) D) (st_g_false (j := 4) (dj := 33) (b := false) rfl rfl rfl (zA s rfl) rfl rfl (st_g_false (j := 4) (dj := 33) (b := false) rfl rfl rfl (zA s rfl) rfl rfl ?_)))
     refine st_g_false (j := 4) (dj := 33) (b := false) rfl rfl rfl (zA s rfl) rfl rfl (st_g_false (j := 4) (dj := 33) (b := false) rfl rfl rfl (zA s rfl) rfl rfl (st_g_false (j := 4) (dj := 33) (b := false) rfl rfl rfl (zA s rfl) rfl rfl (st_g_false (j := 4) (dj := 33) (b := false) rfl rfl rfl (zA s rfl) rfl rfl (st_g_false (j := 4) (dj := 33) (b := false) rfl rfl rfl (zA s rfl) rfl rfl (st_g_false (j := 4) (dj := 33) (b := false) rfl rfl rfl (zA s rfl) rfl rfl (st_g_false (j := 4) (dj := 33) (b := false) rfl rfl rfl (zA s rfl) rfl rfl (st_step rfl (fun _ D => zc (zA s rfl) rfl D) (st_nil (B _ _ ?_)))))))))
     exact K _ _ _ s H ⟨(zL s rfl F), (zL s rfl I), (zL s rfl y), (zL s rfl G), (zL s rfl A), (zU s rfl).trans (congrArg Value.bool (decide_eq_true zx).symm), hb, zx, g⟩
    refine st_step rfl (fun _ D => op_cmp (b := false) (zA s rfl) (zA s rfl) (b_eql (decide_eq_false O)) D) (st_step rfl (fun _ D => zG (zA s rfl) D) (st_g_true (j := 4) (dj := 33) (b := false) rfl rfl rfl (zA s rfl) (st_step rfl (fun _ D => zG (zC s rfl y) D) (st_g_true (j := 4) (dj := 33) (b := false) rfl rfl rfl (zA s rfl) (st_step rfl (fun _ D => zG (zC s rfl A) D) (st_g_true (j := 4) (dj := 33) (b := false) rfl rfl rfl (zA s rfl) (st_index_rd slt24 (zA s rfl) g.rdw (zA s rfl) zx zx ?_)))))))
    intro R T Q S P
    refine st_g_true (j := 4) (dj := 33) (b := false) rfl rfl rfl (zA s rfl) (st_step rfl (fun _ D => zN (v := (Value.int .u16 (((nrm (l.take i)).getD jj 0).toNat : Int))) one56 (zA s rfl) (by have := P 0 (.int .u16 (((nrm (l.take i)).getD jj 0).toNat : Int)) zz (el_u16 (i := jj) zx zx); simpa using this) D) (st_g_true (j := 4) (dj := 33) (b := false) rfl rfl rfl (zA s rfl) (st_step rfl (fun _ D => zG (zC s rfl F) D) (st_g_true (j := 4) (dj := 33) (b := false) rfl rfl rfl (zA s rfl) (st_step rfl (fun _ D => zG (zC s rfl G) D) (st_g_true (j := 4) (dj := 33) (b := false) rfl rfl rfl (zA s rfl) ?_))))))
    have hl' := hl.keep0 (zQ hb)
    refine st_index_rd slt23 (zA s rfl) hl' (zA s rfl) zx zx ?_
    intro R S T Q P
    refine st_g_true (j := 4) (dj := 33) (b := false) rfl rfl rfl (zA s rfl) (st_step rfl (fun _ D => zN (v := (Value.int .u16 ((l.getD i 0).toNat : Int))) one56 (zA s rfl) (by have := P 0 (.int .u16 ((l.getD i 0).toNat : Int)) zz (el_u16 (i := i) zx zx); simpa using this) D) (st_g_true (j := 4) (dj := 33) (b := false) rfl rfl rfl (zA s rfl) (st_step rfl (fun _ D => op_cmp (b := (decide ((((nrm (l.take i)).getD jj 0).toNat : Int) ≠ ((l.getD i 0).toNat : Int)))) (zA s rfl) (zA s rfl) (b_neq rfl) D) (st_step rfl (fun _ D => zd (zA s rfl) (zA s rfl) D) (st_nil (B _ _ ?_))))))
    exact K _ _ _ s H ⟨(zL s rfl F), (zL s rfl I), (zL s rfl y), (zL s rfl G), (zL s rfl A), (zU s rfl).trans (congrArg Value.bool (decide_eq_decide.2 zx)), hb, zx, g⟩
   rintro X K P U ⟨S, T, R, Q, V, W, hb, Y, g⟩
   have := hb.size
   refine wp_cond_split (zC P rfl W) (fun X => ?_) (fun X => ?_)
   ·
    have X := of_decide_eq_true X
    have W := g
    refine reg_split (hd := [_, _, _, _, _, _, _, _, _, _, _, _, _, _]) (tl := _) 14 mixed zy rfl rfl ?_
    refine any_chain (Φ := phiC [chP 0, (fun _ _ uz _ => uz = r), (fun _ _ uz _ => uz = (.int .i64 ((jj : Nat) : Int))), (fun _ vz uz w' => ∃ (ac : Value), uz = ac ∧ RdC w' w.heap.size K.heap.size 1 ac jj ((((nrm (l.take i)).take jj)).map u16v) ∧ (K.heap.size ≤ w'.heap.size ∧ ∀ k, vz.ownBlock = some k → K.heap.size ≤ k)), chP 1, (fun _ _ uz _ => uz = v), (fun _ _ uz _ => uz = (.int .i64 ((i : Nat) : Int))), (fun _ vz uz w' => ∃ (ab : (Nat)) (ad : (Nat)), uz = (ptr ab ad) ∧ PtC w' 0 w.heap.size ab ad [(.int .u16 ((l.getD i 0).toNat : Int))] ∧ (w.heap.size ≤ w'.heap.size ∧ ∀ k, vz.ownBlock = some k → w.heap.size ≤ k)), (fun _ _ uz _ => uz = (.int .u16 ((l.getD i 0).toNat : Int))), (fun _ vz uz w' => ∃ (aa : Nat), uz = (.slice (some ⟨aa, 0, none⟩) 1 1) ∧ K.heap.size ≤ aa ∧ Bx w' aa 56 [(.int .u16 ((l.getD i 0).toNat : Int))] ∧ vz.ownBlock ≠ some aa), chP 2, (fun _ _ uz _ => uz = r), (fun _ _ uz _ => uz = (.int .i64 ((jj : Nat) : Int))), (fun _ vz uz w' => ∃ (ae : Value), uz = ae ∧ RdC w' w.heap.size K.heap.size 1 ae ((nrm (l.take i)).length - jj) ((((nrm (l.take i)).drop jj)).map u16v) ∧ (K.heap.size ≤ w'.heap.size ∧ ∀ k, vz.ownBlock = some k → K.heap.size ≤ k))]) (C := CL [(fun vz w' => Own w' w.heap.size 56 1 vz 0 ([])), (fun vz w' => Own w' w.heap.size 56 1 vz 0 ([])), (fun vz w' => Own w' w.heap.size 56 1 vz (0 + jj) ((((nrm (l.take i)).take jj)).map u16v)), (fun vz w' => Own w' w.heap.size 56 1 vz ((0 + jj) + 1) (((((nrm (l.take i)).take jj) ++ [(l.getD i 0)])).map u16v))]) ⟨[0, 4, 10], fun c => [60, 44, 48, 54].getD c 60⟩ (.slice none 0 0) zy zy zy zy P (StK.get0 (n := 3) (StK.ch (StK.eq (StK.eq (StK.cons (fun c v u o w2 E h => by obtain ⟨x0, hv, Z, Y⟩ := h; exact ⟨x0, hv, Z.keep0 E, ⟨Nat.le_trans Y.1 E.size, Y.2⟩⟩) (fun c v v' u o w2 _ E h => by obtain ⟨x0, hv, Z, Y⟩ := h; exact ⟨x0, hv, Z.keep E.1 (fun k hk => .inr (Y.2 k hk)), ⟨Nat.le_trans Y.1 E.1.size, ge_step E Y.1 Y.2⟩⟩) (StK.ch (StK.eq (StK.eq (StK.cons (fun c v u o w2 E h => by obtain ⟨x0, x1, hv, Z, Y⟩ := h; exact ⟨x0, x1, hv, Z.keep0 E, ⟨Nat.le_trans Y.1 E.size, Y.2⟩⟩) (fun c v v' u o w2 _ E h => by obtain ⟨x0, x1, hv, Z, Y⟩ := h; exact ⟨x0, x1, hv, Z.keep E.1 (fun k hk => .inr (Y.2 k hk)), ⟨Nat.le_trans Y.1 E.1.size, ge_step E Y.1 Y.2⟩⟩) (StK.eq (StK.cons (fun c v u o w2 E h => by obtain ⟨x0, hv, l0, Z, Y⟩ := h; exact ⟨x0, hv, l0, Z.keep0 E, Y⟩) (fun c v v' u o w2 _ E h => by obtain ⟨x0, hv, l0, Z, Y⟩ := h; exact ⟨x0, hv, l0, Z.keep E.1 (fun hh => Y hh.symm), ne_step E Z.lt Y⟩) (StK.ch (StK.eq (StK.eq (StK.cons (fun c v u o w2 E h => by obtain ⟨x0, hv, Z, Y⟩ := h; exact ⟨x0, hv, Z.keep0 E, ⟨Nat.le_trans Y.1 E.size, Y.2⟩⟩) (fun c v v' u o w2 _ E h => by obtain ⟨x0, hv, Z, Y⟩ := h; exact ⟨x0, hv, Z.keep E.1 (fun k hk => .inr (Y.2 k hk)), ⟨Nat.le_trans Y.1 E.1.size, ge_step E Y.1 Y.2⟩⟩) (StK.nil)))))))))))))))) (StK.get1 (n := 3) (StK.ch (StK.eq (StK.eq (StK.cons (fun c v u o w2 E h => by obtain ⟨x0, hv, Z, Y⟩ := h; exact ⟨x0, hv, Z.keep0 E, ⟨Nat.le_trans Y.1 E.size, Y.2⟩⟩) (fun c v v' u o w2 _ E h => by obtain ⟨x0, hv, Z, Y⟩ := h; exact ⟨x0, hv, Z.keep E.1 (fun k hk => .inr (Y.2 k hk)), ⟨Nat.le_trans Y.1 E.1.size, ge_step E Y.1 Y.2⟩⟩) (StK.ch (StK.eq (StK.eq (StK.cons (fun c v u o w2 E h => by obtain ⟨x0, x1, hv, Z, Y⟩ := h; exact ⟨x0, x1, hv, Z.keep0 E, ⟨Nat.le_trans Y.1 E.size, Y.2⟩⟩) (fun c v v' u o w2 _ E h => by obtain ⟨x0, x1, hv, Z, Y⟩ := h; exact ⟨x0, x1, hv, Z.keep E.1 (fun k hk => .inr (Y.2 k hk)), ⟨Nat.le_trans Y.1 E.1.size, ge_step E Y.1 Y.2⟩⟩) (StK.eq (StK.cons (fun c v u o w2 E h => by obtain ⟨x0, hv, l0, Z, Y⟩ := h; exact ⟨x0, hv, l0, Z.keep0 E, Y⟩) (fun c v v' u o w2 _ E h => by obtain ⟨x0, hv, l0, Z, Y⟩ := h; exact ⟨x0, hv, l0, Z.keep E.1 (fun hh => Y hh.symm), ne_step E Z.lt Y⟩) (StK.ch (StK.eq (StK.eq (StK.cons (fun c v u o w2 E h => by obtain ⟨x0, hv, Z, Y⟩ := h; exact ⟨x0, hv, Z.keep0 E, ⟨Nat.le_trans Y.1 E.size, Y.2⟩⟩) (fun c v v' u o w2 _ E h => by obtain ⟨x0, hv, Z, Y⟩ := h; exact ⟨x0, hv, Z.keep E.1 (fun k hk => .inr (Y.2 k hk)), ⟨Nat.le_trans Y.1 E.1.size, ge_step E Y.1 Y.2⟩⟩) (StK.nil)))))))))))))))) (StL2.get0 (StL2.own (StL2.own (StL2.own (StL2.own (StL2.nil)))))) (StL2.get1 (StL2.own (StL2.own (StL2.own (StL2.own (StL2.nil)))))) (Own.nil K w.heap.size 56 1) (ObLn.get (ObLn.pass rfl (ObLn.cons ?_ (ObLn.cons ?_ (ObLn.cons ?_ (ObLn.pass rfl (ObLn.cons ?_ (ObLn.cons ?_ (ObLn.cons ?_ (ObLn.cons ?_ (ObLn.cons ?_ (ObLn.pass rfl (ObLn.cons ?_ (ObLn.cons ?_ (ObLn.cons ?_ (ObLn.nil)))))))))))))))) (ObLc.get (ObLc.cons ?_ (ObLc.cons ?_ (ObLc.cons ?_ (ObLc.nil))))) ?_
    ·
     intro aA wA ccA cvA hNA hclA hRA hltA hvoA hbsA hdpA
     have af := (hbsA 3 rfl).trans (zL P rfl R)
     refine zG (zC hNA rfl af) ?_
     exact obNc_end rfl rfl (grown_refl _ _)
    ·
     intro aA wA ccA cvA hNA hclA hRA hltA hvoA hbsA hdpA
     have ag := (hbsA 5 rfl).trans (zL P rfl V)
     refine zG (zC hNA rfl ag) ?_
     exact obNc_end rfl rfl (grown_refl _ _)
    ·
     intro aA wA ccA cvA hNA hclA hRA hltA hvoA hbsA hdpA
     have hRA : K.grownBy wA (Value.slice none 0 0).ownBlock := hRA
     have hnil_o := (Own.nil K w.heap.size 56 1)
     have := hRA.size
     have g := g.keep0 hRA
     have ah : Sl aA 45 r := hdpA 1 _ 45 zy rfl rfl
     have ai : Sl aA 46 (.int .i64 ((jj : Nat) : Int)) := hdpA 2 _ 46 zy rfl rfl
     clear hbsA hdpA
     refine op_slice_rd (lo := 0) (hi := jj) slt24 (zC hNA rfl ah) (Own.rdB g W) (.inl ⟨rfl, rfl⟩) (.inr ⟨_, _, rfl, (zC hNA rfl ai)⟩) zx zx ?_
     intro ak aj
     have aj : RdC wA w.heap.size K.heap.size 1 ak jj ((((nrm (l.take i)).take jj)).map u16v) := by simpa [List.map_drop, List.map_take] using aj
     exact obNc_end rfl ⟨ak, rfl, aj, ⟨by omega, ge_of hvoA (fun k hk => by simp [Value.ownBlock] at hk) zx⟩⟩ (grown_refl _ _)
    ·
     intro aA wA ccA cvA hNA hclA hRA hltA hvoA hbsA hdpA
     have aj := (hbsA 0 rfl).trans (zL P rfl S)
     refine zG (zC hNA rfl aj) ?_
     exact obNc_end rfl rfl (grown_refl _ _)
    ·
     intro aA wA ccA cvA hNA hclA hRA hltA hvoA hbsA hdpA
     have ak := (hbsA 4 rfl).trans (zL P rfl Q)
     refine zG (zC hNA rfl ak) ?_
     exact obNc_end rfl rfl (grown_refl _ _)
    ·
     intro aA wA ccA cvA hNA hclA hRA hltA hvoA hbsA hdpA
     have hRA : K.grownBy wA (Value.slice none 0 0).ownBlock := hRA
     have hnil_o := (Own.nil K w.heap.size 56 1)
     have := hRA.size
     have hb := below_stepO hb (Own.nil K w.heap.size 56 1) hRA hb.size zx
     have al : Sl aA 49 v := hdpA 5 _ 49 zy rfl rfl
     have am : Sl aA 50 (.int .i64 ((i : Nat) : Int)) := hdpA 6 _ 50 zy rfl rfl
     clear hbsA hdpA
     have hl' := hl.keep0 (zQ hb)
     refine zh slt23 (zC hNA rfl al) hl' (zC hNA rfl am) zx zx ?_
     intro ao an ar aq ap
     have aq : PtC wA 0 w.heap.size ao an [(.int .u16 ((l.getD i 0).toNat : Int))] := ⟨by omega, by omega, fun j u hu => ap j u (by have := (List.getElem?_eq_some_iff.1 hu).1; simpa using this) ((fun j u hu => one_at (el_u16 (i := i) zx zx) hu) j u hu)⟩
     exact obNc_end rfl ⟨ao, an, rfl, aq, ⟨by omega, ge_of hvoA (fun k hk => by simp [Value.ownBlock] at hk) zx⟩⟩ (grown_refl _ _)
    ·
     intro aA wA ccA cvA hNA hclA hRA hltA hvoA hbsA hdpA
     have hRA : K.grownBy wA (Value.slice none 0 0).ownBlock := hRA
     have hnil_o := (Own.nil K w.heap.size 56 1)
     have := hRA.size
     obtain ⟨ab, ad, ao, an, ap⟩ := hdpA 7 _ 51 zy rfl rfl
     have an : PtC wA 0 w.heap.size ab ad [(.int .u16 ((l.getD i 0).toNat : Int))] := an
     clear hbsA hdpA
     refine zN (v := (Value.int .u16 ((l.getD i 0).toNat : Int))) one56 (zC hNA rfl ao) (an.2.2 0 _ rfl) ?_
     exact obNc_end rfl rfl (grown_refl _ _)
    ·
     intro aA wA ccA cvA hNA hclA hRA hltA hvoA hbsA hdpA
     have hRA : K.grownBy wA (Value.slice none 0 0).ownBlock := hRA
     have hnil_o := (Own.nil K w.heap.size 56 1)
     have := hRA.size
     have ad : Sl aA 52 (.int .u16 ((l.getD i 0).toNat : Int)) := hdpA 8 _ 52 zy rfl rfl
     clear hbsA hdpA
     refine op_bslice (e := 56) (pv := [(0, (.int .u16 ((l.getD i 0).toNat : Int)))]) (cs := [(.int .u16 ((l.getD i 0).toNat : Int))]) ⟨rfl, (zC hNA rfl ad), trivial⟩ zy ?_
     intro ax aq aw au ar an
     have := an.size
     exact obNc_end rfl ⟨aq, rfl, zx, ar, (fun hh => by have := hltA _ hh; omega)⟩ (an)
    ·
     intro aA wA ccA cvA hNA hclA hRA hltA hvoA hbsA hdpA
     have af := (hbsA 3 rfl).trans (zL P rfl R)
     refine zG (zC hNA rfl af) ?_
     exact obNc_end rfl rfl (grown_refl _ _)
    ·
     intro aA wA ccA cvA hNA hclA hRA hltA hvoA hbsA hdpA
     have ag := (hbsA 5 rfl).trans (zL P rfl V)
     refine zG (zC hNA rfl ag) ?_
     exact obNc_end rfl rfl (grown_refl _ _)
    ·
     intro aA wA ccA cvA hNA hclA hRA hltA hvoA hbsA hdpA
     have hRA : K.grownBy wA (Value.slice none 0 0).ownBlock := hRA
     have hnil_o := (Own.nil K w.heap.size 56 1)
     have := hRA.size
     have g := g.keep0 hRA
     have V : Sl aA 55 r := hdpA 11 _ 55 zy rfl rfl
     have an : Sl aA 56 (.int .i64 ((jj : Nat) : Int)) := hdpA 12 _ 56 zy rfl rfl
     clear hbsA hdpA
     refine op_slice_rd (lo := jj) (hi := (nrm (l.take i)).length) slt24 (zC hNA rfl V) (Own.rdB g W) (.inr ⟨_, _, rfl, (zC hNA rfl an)⟩) (.inl ⟨rfl, rfl⟩) zx zx ?_
     intro ar aq
     have aq : RdC wA w.heap.size K.heap.size 1 ar ((nrm (l.take i)).length - jj) ((((nrm (l.take i)).drop jj)).map u16v) := by simpa [List.map_drop, List.map_take, List.take_of_length_le] using aq
     exact obNc_end rfl ⟨ar, rfl, aq, ⟨by omega, ge_of hvoA (fun k hk => by simp [Value.ownBlock] at hk) zx⟩⟩ (grown_refl _ _)
    ·
     intro o_ ho_; obtain rfl := zE ho_; intro aA wA cvA hNA hRA aq hbsA hdpA hCA
     have hRA : K.grownBy wA (Value.slice none 0 0).ownBlock := hRA
     have hnil_o := (Own.nil K w.heap.size 56 1)
     have := hRA.size
     have hcvA : (Value.slice none 0 0) = cvA := (aq rfl).symm
     subst hcvA
     clear hbsA hdpA
     refine op_bslice (e := 56) (pv := []) (cs := []) trivial zy ?_
     intro aw ab ay ax au ar
     have := ar.size
     exact obCc_end rfl rfl (chP_now (w := aw)) (Own.ofBx (base := w.heap.size) (sz := 1) (n := 0) au rfl zz zx) ⟨ar, .inr (fun k hk => by simp [Value.ownBlock] at hk; omega)⟩
    ·
     intro o_ ho_; obtain rfl := zE ho_; intro aA wA cvA hNA hRA aq hbsA hdpA hCA
     have hRA : K.grownBy wA (Value.slice none 0 0).ownBlock := hRA
     have hnil_o := (Own.nil K w.heap.size 56 1)
     have := hRA.size
     have hb := below_stepO hb (Own.nil K w.heap.size 56 1) hRA hb.size zx
     have hCA : Own wA w.heap.size 56 1 cvA 0 ([]) := hCA
     have ab : aA.tmps.getD 44 undef = cvA := (show chP 0 1 cvA (aA.tmps.getD 44 undef) wA from hdpA 0 _ 44 zy rfl rfl).2 rfl
     obtain ⟨ac, ar, au, aw⟩ := hdpA 3 _ 47 zy rfl rfl
     have au : RdC wA w.heap.size K.heap.size 1 ac jj ((((nrm (l.take i)).take jj)).map u16v) := au
     clear hbsA hdpA
     have ac := hCA
     refine op_append slt24 (zC hNA rfl ab) ac (zC hNA rfl ar) (Src.ofRd Tryz.underlying24 zz au (one_u16 _)) (by unfold maxLen; omega) zx hb.size ?_
     intro ay au ac ax az
     have := ax.size
     have ac : Own au w.heap.size 56 1 ay (0 + jj) ((((nrm (l.take i)).take jj)).map u16v) := by simpa [u8v, u16v, cellsV] using ac
     exact obCc_end rfl rfl (chP_now (w := au)) ac ⟨ax, az⟩
    ·
     intro o_ ho_; obtain rfl := zE ho_; intro aA wA cvA hNA hRA aq hbsA hdpA hCA
     have hRA : K.grownBy wA (Value.slice none 0 0).ownBlock := hRA
     have hnil_o := (Own.nil K w.heap.size 56 1)
     have := hRA.size
     have hb := below_stepO hb (Own.nil K w.heap.size 56 1) hRA hb.size zx
     have hCA : Own wA w.heap.size 56 1 cvA (0 + jj) ((((nrm (l.take i)).take jj)).map u16v) := hCA
     have ac : aA.tmps.getD 48 undef = cvA := (show chP 1 2 cvA (aA.tmps.getD 48 undef) wA from hdpA 4 _ 48 zy rfl rfl).2 rfl
     obtain ⟨aa, ax, ay, au, az⟩ := hdpA 9 _ 53 zy rfl rfl
     have au : Bx wA aa 56 [(.int .u16 ((l.getD i 0).toNat : Int))] := au
     clear hbsA hdpA
     have aa := hCA
     refine op_append slt24 (zC hNA rfl ac) aa (zC hNA rfl ax) (Src.ofRd Tryz.underlying24 zz (RdC.ofBx (sz := 1) (n := 1) au rfl zz) (by simp [Value.oneCell', u8v])) (by unfold maxLen; omega) zx hb.size ?_
     intro aD aB aa au aC
     have := au.size
     have aa : Own aB w.heap.size 56 1 aD ((0 + jj) + 1) (((((nrm (l.take i)).take jj) ++ [(l.getD i 0)])).map u16v) := by simpa [u8v, u16v, cellsV] using aa
     exact obCc_end rfl rfl (chP_now (w := aB)) aa ⟨au, aC⟩
    intro aH au aE aa aF aC aG aD aB aI
    have aF := aF.trans U
    have aI := (aC 0 rfl).trans (zL P rfl S)
    have aJ := (aC 2 rfl).trans (zL P rfl T)
    have aK := (aC 4 rfl).trans (zL P rfl Q)
    have aL : aH.tmps.getD 54 undef = aE := (show chP 2 3 aE (aH.tmps.getD 54 undef) au from aG 10 _ 54 rfl rfl).2 rfl
    obtain ⟨ae, aM, aH, aN⟩ := aG 13 _ 57 rfl rfl
    have aH : RdC au w.heap.size K.heap.size 1 ae ((nrm (l.take i)).length - jj) ((((nrm (l.take i)).drop jj)).map u16v) := aH
    clear aC aG
    have aB : K.grownBy au (Value.slice none 0 0).ownBlock := aB
    have aD : Own au w.heap.size 56 1 aE ((0 + jj) + 1) (((((nrm (l.take i)).take jj) ++ [(l.getD i 0)])).map u16v) := aD
    have aB : K.grownBy au none := aB
    obtain ⟨hb, _⟩ := yE hb aB
    refine split_end (from_seq (tl := [_, _]) zz zy rfl ?_)
    have K := aD
    refine op_append slt24 (zC aa rfl aL) K (zC aa rfl aM) (Src.ofRd Tryz.underlying24 zz aH (one_u16 _)) (by unfold maxLen; omega) zx hb.size ?_
    intro aB aC ae au aD
    have := au.size
    have hb := below_stepO hb K au hb.size zx
    have ae : Own aC w.heap.size 56 1 aB (((0 + jj) + 1) + ((nrm (l.take i)).length - jj)) ((((((nrm (l.take i)).take jj) ++ [(l.getD i 0)]) ++ ((nrm (l.take i)).drop jj))).map u16v) := by simpa [u8v, u16v, cellsV] using ae
    refine zD (zA aa rfl) (zB (m _ _ (zH (zG (zC aa rfl aK) (op_add (zA aa rfl) rfl (add64 zx) (zD (zA aa rfl) (zB ?_)))))))
    -- round 9T 15T 26F 43T
    have hins := insT_at (x := l.getD i 0) (acc := (nrm (l.take i))) (j := jj) hlt zx zx
    exact zg _ aa aF ⟨i + 1, _, rfl, (zL aa rfl aI), (zL aa rfl aJ), (zU aa rfl).trans (congrArg (Value.int .i64) zx), (zU aa rfl), zx, (nrm_len zx), hb, zx, (ae.cast (by rw [take_nrm zx, hins.2 (X.imp (fun q => by omega) fun q e => q (by rw [e]))]; simp; omega) (by rw [take_nrm zx, hins.2 (X.imp (fun q => by omega) fun q e => q (by rw [e]))]; try simp [u16v]))⟩ zx
   have X := of_decide_eq_false X
   refine wp_skip (m _ _ (zH (zG (zC P rfl Q) (op_add (zA P rfl) rfl (add64 zx) (zD (zA P rfl) (zB ?_))))))
   -- round 9T 15T 26F 43F
   have hins := insT_at (x := l.getD i 0) (acc := (nrm (l.take i))) (j := jj) hlt zx zx
   exact zg _ P U ⟨i + 1, _, rfl, (zL P rfl S), (zL P rfl T), (zU P rfl).trans (congrArg (Value.int .i64) zx), (zL P rfl R), zx, (nrm_len zx), hb, zx, (g.cast (by rw [take_nrm zx, hins.1 ⟨by omega, u16_eq zx⟩]) (by rw [take_nrm zx, hins.1 ⟨by omega, u16_eq zx⟩]))⟩ zx
  refine st_step rfl (fun _ D => op_cmp (b := false) (zA s rfl) (zA s rfl) (b_lss (decide_eq_false L)) D) (st_step rfl (fun _ D => zG (zA s rfl) D) (st_g_false (j := 4) (dj := 16) (b := true) rfl rfl rfl (zA s rfl) rfl rfl (st_g_false (j := 4) (dj := 16) (b := true) rfl rfl rfl (zA s rfl) rfl rfl (st_g_false (j := 4) (dj := 16) (b := true) rfl rfl rfl (zA s rfl) rfl rfl ?_))))
  refine st_g_false (j := 4) (dj := 16) (b := true) rfl rfl rfl (zA s rfl) rfl rfl (st_g_false (j := 4) (dj := 16) (b := true) rfl rfl rfl (zA s rfl) rfl rfl (st_g_false (j := 4) (dj := 16) (b := true) rfl rfl rfl (zA s rfl) rfl rfl (st_g_false (j := 4) (dj := 16) (b := true) rfl rfl rfl (zA s rfl) rfl rfl (st_g_false (j := 4) (dj := 16) (b := true) rfl rfl rfl (zA s rfl) rfl rfl (st_g_false (j := 4) (dj := 16) (b := true) rfl rfl rfl (zA s rfl) rfl rfl (st_step rfl (fun _ D => zd (zA s rfl) rfl D) (st_nil (J _ _ (wp_cond_false (zA s rfl) (wp_exit (then_exit (then_exit (blk_hit (B _ _ (seq_join1 (N := 60) (fun az_ w' => (Sl az_ 0 v) ∧ (Sl az_ 2 (.slice none 0 0)) ∧ (Sl az_ 3 r) ∧ (Sl az_ 4 (.int .i64 ((i : Nat) : Int))) ∧ (Sl az_ 5 (.int .i64 ((jj : Nat) : Int))) ∧ (Sl az_ 43 (.bool (decide (jj = (nrm (l.take i)).length ∨ ((nrm (l.take i)).getD jj 0).toNat ≠ (l.getD i 0).toNat)))) ∧ (Below w.heap.size w w') ∧ (M.heap.size ≤ w'.heap.size) ∧ (Own w' w.heap.size 56 1 r (nrm (l.take i)).length ((nrm (l.take i)).map u16v))) (fun K => ?_) ?_)))))))))))))))
  ·
   refine zF fun _ B => reg_still mixed zy ?_
   intro L J
   obtain ⟨hb, _⟩ := yE hb J
   have g := g.keep0 J
   refine st_step rfl (fun _ D => zG (zC s rfl A) D) (st_step rfl (fun _ D => zG (zC s rfl y) D) (st_step rfl (fun _ D => op_len_rd Tryz.underlying24 (zA s rfl) g.rdw D) ?_))
   by_cases O : ((jj : Nat) : Int) = (((nrm (l.take i)).length : Nat) : Int)
   ·
    refine st_step rfl (fun _ D => op_cmp (b := true) (zA s rfl) (zA s rfl) (b_eql (decide_eq_true O)) D) (st_step rfl (fun _ D => zG (zA s rfl) D) (st_g_false (j := 4) (dj := 33) (b := false) rfl rfl rfl (zA s rfl) rfl rfl (st_g_false (j := 4) (dj := 33) (b := false) rfl rfl rfl (zA s rfl) rfl rfl ?_)))
    refine st_g_false (j := 4) (dj := 33) (b := false) rfl rfl rfl (zA s rfl) rfl rfl (st_g_false (j := 4) (dj := 33) (b := false) rfl rfl rfl (zA s rfl) rfl rfl (st_g_false (j := 4) (dj := 33) (b := false) rfl rfl rfl (zA s rfl) rfl rfl (st_g_false (j := 4) (dj := 33) (b := false) rfl rfl rfl (zA s rfl) rfl rfl (st_g_false (j := 4) (dj := 33) (b := false) rfl rfl rfl (zA s rfl) rfl rfl (st_g_false (j := 4) (dj := 33) (b := false) rfl rfl rfl (zA s rfl) rfl rfl (st_g_false (j := 4) (dj := 33) (b := false) rfl rfl rfl (zA s rfl) rfl rfl (st_step rfl (fun _ D => zc (zA s rfl) rfl D) (st_nil (B _ _ ?_)))))))))
    exact K _ _ _ s H ⟨(zL s rfl F), (zL s rfl I), (zL s rfl y), (zL s rfl G), (zL s rfl A), (zU s rfl).trans (congrArg Value.bool (decide_eq_true zx).symm), hb, zx, g⟩
   refine st_step rfl (fun _ D => op_cmp (b := false) (zA s rfl) (zA s rfl) (b_eql (decide_eq_false O)) D) (st_step rfl (fun _ D => zG (zA s rfl) D) (st_g_true (j := 4) (dj := 33) (b := false) rfl rfl rfl (zA s rfl) (st_step rfl (fun _ D => zG (zC s rfl y) D) (st_g_true (j := 4) (dj := 33) (b := false) rfl rfl rfl (zA s rfl) (st_step rfl (fun _ D => zG (zC s rfl A) D) (st_g_true (j := 4) (dj := 33) (b := false) rfl rfl rfl (zA s rfl) (st_index_rd slt24 (zA s rfl) g.rdw (zA s rfl) zx zx ?_)))))))
   intro M P L O J
   refine st_g_true (j := 4) (dj := 33) (b := false) rfl rfl rfl (zA s rfl) (st_step rfl (fun _ D => zN (v := (Value.int .u16 (((nrm (l.take i)).getD jj 0).toNat : Int))) one56 (zA s rfl) (by have := J 0 (.int .u16 (((nrm (l.take i)).getD jj 0).toNat : Int)) zz (el_u16 (i := jj) zx zx); simpa using this) D) (st_g_true (j := 4) (dj := 33) (b := false) rfl rfl rfl (zA s rfl) (st_step rfl (fun _ D => zG (zC s rfl F) D) (st_g_true (j := 4) (dj := 33) (b := false) rfl rfl rfl (zA s rfl) (st_step rfl (fun _ D => zG (zC s rfl G) D) (st_g_true (j := 4) (dj := 33) (b := false) rfl rfl rfl (zA s rfl) ?_))))))
   have hl' := hl.keep0 (zQ hb)
   refine st_index_rd slt23 (zA s rfl) hl' (zA s rfl) zx zx ?_
   intro M L O P J
   refine st_g_true (j := 4) (dj := 33) (b := false) rfl rfl rfl (zA s rfl) (st_step rfl (fun _ D => zN (v := (Value.int .u16 ((l.getD i 0).toNat : Int))) one56 (zA s rfl) (by have := J 0 (.int .u16 ((l.getD i 0).toNat : Int)) zz (el_u16 (i := i) zx zx); simpa using this) D) (st_g_true (j := 4) (dj := 33) (b := false) rfl rfl rfl (zA s rfl) (st_step rfl (fun _ D => op_cmp (b := (decide ((((nrm (l.take i)).getD jj 0).toNat : Int) ≠ ((l.getD i 0).toNat : Int)))) (zA s rfl) (zA s rfl) (b_neq rfl) D) (st_step rfl (fun _ D => zd (zA s rfl) (zA s rfl) D) (st_nil (B _ _ ?_))))))
   exact K _ _ _ s H ⟨(zL s rfl F), (zL s rfl I), (zL s rfl y), (zL s rfl G), (zL s rfl A), (zU s rfl).trans (congrArg Value.bool (decide_eq_decide.2 zx)), hb, zx, g⟩
  rintro L s y G ⟨D, H, A, F, I, J, hb, K, g⟩
  have := hb.size
  refine wp_cond_split (zC y rfl J) (fun X => ?_) (fun X => ?_)
  ·
   have X := of_decide_eq_true X
   have W := g
   refine reg_split (hd := [_, _, _, _, _, _, _, _, _, _, _, _, _, _]) (tl := _) 14 mixed zy rfl rfl ?_
   refine any_chain (Φ := phiC [chP 0, (fun _ _ uz _ => uz = r), (fun _ _ uz _ => uz = (.int .i64 ((jj : Nat) : Int))), (fun _ vz uz w' => ∃ (M : Value), uz = M ∧ RdC w' w.heap.size s.heap.size 1 M jj ((((nrm (l.take i)).take jj)).map u16v) ∧ (s.heap.size ≤ w'.heap.size ∧ ∀ k, vz.ownBlock = some k → s.heap.size ≤ k)), chP 1, (fun _ _ uz _ => uz = v), (fun _ _ uz _ => uz = (.int .i64 ((i : Nat) : Int))), (fun _ vz uz w' => ∃ (K : (Nat)) (L : (Nat)), uz = (ptr K L) ∧ PtC w' 0 w.heap.size K L [(.int .u16 ((l.getD i 0).toNat : Int))] ∧ (w.heap.size ≤ w'.heap.size ∧ ∀ k, vz.ownBlock = some k → w.heap.size ≤ k)), (fun _ _ uz _ => uz = (.int .u16 ((l.getD i 0).toNat : Int))), (fun _ vz uz w' => ∃ (J : Nat), uz = (.slice (some ⟨J, 0, none⟩) 1 1) ∧ s.heap.size ≤ J ∧ Bx w' J 56 [(.int .u16 ((l.getD i 0).toNat : Int))] ∧ vz.ownBlock ≠ some J), chP 2, (fun _ _ uz _ => uz = r), (fun _ _ uz _ => uz = (.int .i64 ((jj : Nat) : Int))), (fun _ vz uz w' => ∃ (O : Value), uz = O ∧ RdC w' w.heap.size s.heap.size 1 O ((nrm (l.take i)).length - jj) ((((nrm (l.take i)).drop jj)).map u16v) ∧ (s.heap.size ≤ w'.heap.size ∧ ∀ k, vz.ownBlock = some k → s.heap.size ≤ k))]) (C := CL [(fun vz w' => Own w' w.heap.size 56 1 vz 0 ([])), (fun vz w' => Own w' w.heap.size 56 1 vz 0 ([])), (fun vz w' => Own w' w.heap.size 56 1 vz (0 + jj) ((((nrm (l.take i)).take jj)).map u16v)), (fun vz w' => Own w' w.heap.size 56 1 vz ((0 + jj) + 1) (((((nrm (l.take i)).take jj) ++ [(l.getD i 0)])).map u16v))]) ⟨[0, 4, 10], fun c => [60, 44, 48, 54].getD c 60⟩ (.slice none 0 0) zy zy zy zy y (StK.get0 (n := 3) (StK.ch (StK.eq (StK.eq (StK.cons (fun c v u o w2 E h => by obtain ⟨x0, hv, Z, Y⟩ := h; exact ⟨x0, hv, Z.keep0 E, ⟨Nat.le_trans Y.1 E.size, Y.2⟩⟩) (fun c v v' u o w2 _ E h => by obtain ⟨x0, hv, Z, Y⟩ := h; exact ⟨x0, hv, Z.keep E.1 (fun k hk => .inr (Y.2 k hk)), ⟨Nat.le_trans Y.1 E.1.size, ge_step E Y.1 Y.2⟩⟩) (StK.ch (StK.eq (StK.eq (StK.cons (fun c v u o w2 E h => by obtain ⟨x0, x1, hv, Z, Y⟩ := h; exact ⟨x0, x1, hv, Z.keep0 E, ⟨Nat.le_trans Y.1 E.size, Y.2⟩⟩) (fun c v v' u o w2 _ E h => by obtain ⟨x0, x1, hv, Z, Y⟩ := h; exact ⟨x0, x1, hv, Z.keep E.1 (fun k hk => .inr (Y.2 k hk)), ⟨Nat.le_trans Y.1 E.1.size, ge_step E Y.1 Y.2⟩⟩) (StK.eq (StK.cons (fun c v u o w2 E h => by obtain ⟨x0, hv, l0, Z, Y⟩ := h; exact ⟨x0, hv, l0, Z.keep0 E, Y⟩) (fun c v v' u o w2 _ E h => by obtain ⟨x0, hv, l0, Z, Y⟩ := h; exact ⟨x0, hv, l0, Z.keep E.1 (fun hh => Y hh.symm), ne_step E Z.lt Y⟩) (StK.ch (StK.eq (StK.eq (StK.cons (fun c v u o w2 E h => by obtain ⟨x0, hv, Z, Y⟩ := h; exact ⟨x0, hv, Z.keep0 E, ⟨Nat.le_trans Y.1 E.size, Y.2⟩⟩) (fun c v v' u o w2 _ E h => by obtain ⟨x0, hv, Z, Y⟩ := h; exact ⟨x0, hv, Z.keep E.1 (fun k hk => .inr (Y.2 k hk)), ⟨Nat.le_trans Y.1 E.1.size, ge_step E Y.1 Y.2⟩⟩) (StK.nil)))))))))))))))) (StK.get1 (n := 3) (StK.ch (StK.eq (StK.eq (StK.cons (fun c v u o w2 E h => by obtain ⟨x0, hv, Z, Y⟩ := h; exact ⟨x0, hv, Z.keep0 E, ⟨Nat.le_trans Y.1 E.size, Y.2⟩⟩) (fun c v v' u o w2 _ E h => by obtain ⟨x0, hv, Z, Y⟩ := h; exact ⟨x0, hv, Z.keep E.1 (fun k hk => .inr (Y.2 k hk)), ⟨Nat.le_trans Y.1 E.1.size, ge_step E Y.1 Y.2⟩⟩) (StK.ch (StK.eq (StK.eq (StK.cons (fun c v u o w2 E h => by obtain ⟨x0, x1, hv, Z, Y⟩ := h; exact ⟨x0, x1, hv, Z.keep0 E, ⟨Nat.le_trans Y.1 E.size, Y.2⟩⟩) (fun c v v' u o w2 _ E h => by obtain ⟨x0, x1, hv, Z, Y⟩ := h; exact ⟨x0, x1, hv, Z.keep E.1 (fun k hk => .inr (Y.2 k hk)), ⟨Nat.le_trans Y.1 E.1.size, ge_step E Y.1 Y.2⟩⟩) (StK.eq (StK.cons (fun c v u o w2 E h => by obtain ⟨x0, hv, l0, Z, Y⟩ := h; exact ⟨x0, hv, l0, Z.keep0 E, Y⟩) (fun c v v' u o w2 _ E h => by obtain ⟨x0, hv, l0, Z, Y⟩ := h; exact ⟨x0, hv, l0, Z.keep E.1 (fun hh => Y hh.symm), ne_step E Z.lt Y⟩) (StK.ch (StK.eq (StK.eq (StK.cons (fun c v u o w2 E h => by obtain ⟨x0, hv, Z, Y⟩ := h; exact ⟨x0, hv, Z.keep0 E, ⟨Nat.le_trans Y.1 E.size, Y.2⟩⟩) (fun c v v' u o w2 _ E h => by obtain ⟨x0, hv, Z, Y⟩ := h; exact ⟨x0, hv, Z.keep E.1 (fun k hk => .inr (Y.2 k hk)), ⟨Nat.le_trans Y.1 E.1.size, ge_step E Y.1 Y.2⟩⟩) (StK.nil)))))))))))))))) (StL2.get0 (StL2.own (StL2.own (StL2.own (StL2.own (StL2.nil)))))) (StL2.get1 (StL2.own (StL2.own (StL2.own (StL2.own (StL2.nil)))))) (Own.nil s w.heap.size 56 1) (ObLn.get (ObLn.pass rfl (ObLn.cons ?_ (ObLn.cons ?_ (ObLn.cons ?_ (ObLn.pass rfl (ObLn.cons ?_ (ObLn.cons ?_ (ObLn.cons ?_ (ObLn.cons ?_ (ObLn.cons ?_ (ObLn.pass rfl (ObLn.cons ?_ (ObLn.cons ?_ (ObLn.cons ?_ (ObLn.nil)))))))))))))))) (ObLc.get (ObLc.cons ?_ (ObLc.cons ?_ (ObLc.cons ?_ (ObLc.nil))))) ?_
   ·
    intro aA wA ccA cvA hNA hclA hRA hltA hvoA hbsA hdpA
    have af := (hbsA 3 rfl).trans (zL y rfl A)
    refine zG (zC hNA rfl af) ?_
    exact obNc_end rfl rfl (grown_refl _ _)
   ·
    intro aA wA ccA cvA hNA hclA hRA hltA hvoA hbsA hdpA
    have ag := (hbsA 5 rfl).trans (zL y rfl I)
    refine zG (zC hNA rfl ag) ?_
    exact obNc_end rfl rfl (grown_refl _ _)
   ·
    intro aA wA ccA cvA hNA hclA hRA hltA hvoA hbsA hdpA
    have hRA : s.grownBy wA (Value.slice none 0 0).ownBlock := hRA
    have hnil_o := (Own.nil s w.heap.size 56 1)
    have := hRA.size
    have g := g.keep0 hRA
    have ah : Sl aA 45 r := hdpA 1 _ 45 zy rfl rfl
    have ai : Sl aA 46 (.int .i64 ((jj : Nat) : Int)) := hdpA 2 _ 46 zy rfl rfl
    clear hbsA hdpA
    refine op_slice_rd (lo := 0) (hi := jj) slt24 (zC hNA rfl ah) (Own.rdB g W) (.inl ⟨rfl, rfl⟩) (.inr ⟨_, _, rfl, (zC hNA rfl ai)⟩) zx zx ?_
    intro P o
    have o : RdC wA w.heap.size s.heap.size 1 P jj ((((nrm (l.take i)).take jj)).map u16v) := by simpa [List.map_drop, List.map_take] using o
    exact obNc_end rfl ⟨P, rfl, o, ⟨by omega, ge_of hvoA (fun k hk => by simp [Value.ownBlock] at hk) zx⟩⟩ (grown_refl _ _)
   ·
    intro aA wA ccA cvA hNA hclA hRA hltA hvoA hbsA hdpA
    have aj := (hbsA 0 rfl).trans (zL y rfl D)
    refine zG (zC hNA rfl aj) ?_
    exact obNc_end rfl rfl (grown_refl _ _)
   ·
    intro aA wA ccA cvA hNA hclA hRA hltA hvoA hbsA hdpA
    have ak := (hbsA 4 rfl).trans (zL y rfl F)
    refine zG (zC hNA rfl ak) ?_
    exact obNc_end rfl rfl (grown_refl _ _)
   ·
    intro aA wA ccA cvA hNA hclA hRA hltA hvoA hbsA hdpA
    have hRA : s.grownBy wA (Value.slice none 0 0).ownBlock := hRA
    have hnil_o := (Own.nil s w.heap.size 56 1)
    have := hRA.size
    have hb := below_stepO hb (Own.nil s w.heap.size 56 1) hRA hb.size zx
    have al : Sl aA 49 v := hdpA 5 _ 49 zy rfl rfl
    have am : Sl aA 50 (.int .i64 ((i : Nat) : Int)) := hdpA 6 _ 50 zy rfl rfl
    clear hbsA hdpA
    have hl' := hl.keep0 (zQ hb)
    refine zh slt23 (zC hNA rfl al) hl' (zC hNA rfl am) zx zx ?_
    intro P o R S Q
    have R : PtC wA 0 w.heap.size P o [(.int .u16 ((l.getD i 0).toNat : Int))] := ⟨by omega, by omega, fun j u hu => Q j u (by have := (List.getElem?_eq_some_iff.1 hu).1; simpa using this) ((fun j u hu => one_at (el_u16 (i := i) zx zx) hu) j u hu)⟩
    exact obNc_end rfl ⟨P, o, rfl, R, ⟨by omega, ge_of hvoA (fun k hk => by simp [Value.ownBlock] at hk) zx⟩⟩ (grown_refl _ _)
   ·
    intro aA wA ccA cvA hNA hclA hRA hltA hvoA hbsA hdpA
    have hRA : s.grownBy wA (Value.slice none 0 0).ownBlock := hRA
    have hnil_o := (Own.nil s w.heap.size 56 1)
    have := hRA.size
    obtain ⟨K, L, ao, o, ap⟩ := hdpA 7 _ 51 zy rfl rfl
    have o : PtC wA 0 w.heap.size K L [(.int .u16 ((l.getD i 0).toNat : Int))] := o
    clear hbsA hdpA
    refine zN (v := (Value.int .u16 ((l.getD i 0).toNat : Int))) one56 (zC hNA rfl ao) (o.2.2 0 _ rfl) ?_
    exact obNc_end rfl rfl (grown_refl _ _)
   ·
    intro aA wA ccA cvA hNA hclA hRA hltA hvoA hbsA hdpA
    have hRA : s.grownBy wA (Value.slice none 0 0).ownBlock := hRA
    have hnil_o := (Own.nil s w.heap.size 56 1)
    have := hRA.size
    have ad : Sl aA 52 (.int .u16 ((l.getD i 0).toNat : Int)) := hdpA 8 _ 52 zy rfl rfl
    clear hbsA hdpA
    refine op_bslice (e := 56) (pv := [(0, (.int .u16 ((l.getD i 0).toNat : Int)))]) (cs := [(.int .u16 ((l.getD i 0).toNat : Int))]) ⟨rfl, (zC hNA rfl ad), trivial⟩ zy ?_
    intro S L Q R P o
    have := o.size
    exact obNc_end rfl ⟨L, rfl, zx, P, (fun hh => by have := hltA _ hh; omega)⟩ (o)
   ·
    intro aA wA ccA cvA hNA hclA hRA hltA hvoA hbsA hdpA
    have af := (hbsA 3 rfl).trans (zL y rfl A)
    refine zG (zC hNA rfl af) ?_
    exact obNc_end rfl rfl (grown_refl _ _)
   ·
    intro aA wA ccA cvA hNA hclA hRA hltA hvoA hbsA hdpA
    have ag := (hbsA 5 rfl).trans (zL y rfl I)
    refine zG (zC hNA rfl ag) ?_
    exact obNc_end rfl rfl (grown_refl _ _)
   ·
    intro aA wA ccA cvA hNA hclA hRA hltA hvoA hbsA hdpA
    have hRA : s.grownBy wA (Value.slice none 0 0).ownBlock := hRA
    have hnil_o := (Own.nil s w.heap.size 56 1)
    have := hRA.size
    have g := g.keep0 hRA
    have V : Sl aA 55 r := hdpA 11 _ 55 zy rfl rfl
    have an : Sl aA 56 (.int .i64 ((jj : Nat) : Int)) := hdpA 12 _ 56 zy rfl rfl
    clear hbsA hdpA
    refine op_slice_rd (lo := jj) (hi := (nrm (l.take i)).length) slt24 (zC hNA rfl V) (Own.rdB g W) (.inr ⟨_, _, rfl, (zC hNA rfl an)⟩) (.inl ⟨rfl, rfl⟩) zx zx ?_
    intro I o
    have o : RdC wA w.heap.size s.heap.size 1 I ((nrm (l.take i)).length - jj) ((((nrm (l.take i)).drop jj)).map u16v) := by simpa [List.map_drop, List.map_take, List.take_of_length_le] using o
    exact obNc_end rfl ⟨I, rfl, o, ⟨by omega, ge_of hvoA (fun k hk => by simp [Value.ownBlock] at hk) zx⟩⟩ (grown_refl _ _)
   ·
    intro o_ ho_; obtain rfl := zE ho_; intro aA wA cvA hNA hRA aq hbsA hdpA hCA
    have hRA : s.grownBy wA (Value.slice none 0 0).ownBlock := hRA
    have hnil_o := (Own.nil s w.heap.size 56 1)
    have := hRA.size
    have hcvA : (Value.slice none 0 0) = cvA := (aq rfl).symm
    subst hcvA
    clear hbsA hdpA
    refine op_bslice (e := 56) (pv := []) (cs := []) trivial zy ?_
    intro I K P Q L o
    have := o.size
    exact obCc_end rfl rfl (chP_now (w := I)) (Own.ofBx (base := w.heap.size) (sz := 1) (n := 0) L rfl zz zx) ⟨o, .inr (fun k hk => by simp [Value.ownBlock] at hk; omega)⟩
   ·
    intro o_ ho_; obtain rfl := zE ho_; intro aA wA cvA hNA hRA aq hbsA hdpA hCA
    have hRA : s.grownBy wA (Value.slice none 0 0).ownBlock := hRA
    have hnil_o := (Own.nil s w.heap.size 56 1)
    have := hRA.size
    have hb := below_stepO hb (Own.nil s w.heap.size 56 1) hRA hb.size zx
    have hCA : Own wA w.heap.size 56 1 cvA 0 ([]) := hCA
    have ab : aA.tmps.getD 44 undef = cvA := (show chP 0 1 cvA (aA.tmps.getD 44 undef) wA from hdpA 0 _ 44 zy rfl rfl).2 rfl
    obtain ⟨M, ar, o, aw⟩ := hdpA 3 _ 47 zy rfl rfl
    have o : RdC wA w.heap.size s.heap.size 1 M jj ((((nrm (l.take i)).take jj)).map u16v) := o
    clear hbsA hdpA
    have I := hCA
    refine op_append slt24 (zC hNA rfl ab) I (zC hNA rfl ar) (Src.ofRd Tryz.underlying24 zz o (one_u16 _)) (by unfold maxLen; omega) zx hb.size ?_
    intro L K o I M
    have := I.size
    have o : Own K w.heap.size 56 1 L (0 + jj) ((((nrm (l.take i)).take jj)).map u16v) := by simpa [u8v, u16v, cellsV] using o
    exact obCc_end rfl rfl (chP_now (w := K)) o ⟨I, M⟩
   ·
    intro o_ ho_; obtain rfl := zE ho_; intro aA wA cvA hNA hRA aq hbsA hdpA hCA
    have hRA : s.grownBy wA (Value.slice none 0 0).ownBlock := hRA
    have hnil_o := (Own.nil s w.heap.size 56 1)
    have := hRA.size
    have hb := below_stepO hb (Own.nil s w.heap.size 56 1) hRA hb.size zx
    have hCA : Own wA w.heap.size 56 1 cvA (0 + jj) ((((nrm (l.take i)).take jj)).map u16v) := hCA
    have ac : aA.tmps.getD 48 undef = cvA := (show chP 1 2 cvA (aA.tmps.getD 48 undef) wA from hdpA 4 _ 48 zy rfl rfl).2 rfl
    obtain ⟨J, ax, ay, o, az⟩ := hdpA 9 _ 53 zy rfl rfl
    have o : Bx wA J 56 [(.int .u16 ((l.getD i 0).toNat : Int))] := o
    clear hbsA hdpA
    have I := hCA
    refine op_append slt24 (zC hNA rfl ac) I (zC hNA rfl ax) (Src.ofRd Tryz.underlying24 zz (RdC.ofBx (sz := 1) (n := 1) o rfl zz) (by simp [Value.oneCell', u8v])) (by unfold maxLen; omega) zx hb.size ?_
    intro K J o I L
    have := I.size
    have o : Own J w.heap.size 56 1 K ((0 + jj) + 1) (((((nrm (l.take i)).take jj) ++ [(l.getD i 0)])).map u16v) := by simpa [u8v, u16v, cellsV] using o
    exact obCc_end rfl rfl (chP_now (w := J)) o ⟨I, L⟩
   intro R I Q o M K L P J S
   have M := M.trans G
   have S := (K 0 rfl).trans (zL y rfl D)
   have T := (K 2 rfl).trans (zL y rfl H)
   have U := (K 4 rfl).trans (zL y rfl F)
   have V : R.tmps.getD 54 undef = Q := (show chP 2 3 Q (R.tmps.getD 54 undef) I from L 10 _ 54 rfl rfl).2 rfl
   obtain ⟨O, W, R, Y⟩ := L 13 _ 57 rfl rfl
   have R : RdC I w.heap.size s.heap.size 1 O ((nrm (l.take i)).length - jj) ((((nrm (l.take i)).drop jj)).map u16v) := R
   clear K L
   have J : s.grownBy I (Value.slice none 0 0).ownBlock := J
   have P : Own I w.heap.size 56 1 Q ((0 + jj) + 1) (((((nrm (l.take i)).take jj) ++ [(l.getD i 0)])).map u16v) := P
   have J : s.grownBy I none := J
   obtain ⟨hb, _⟩ := yE hb J
   refine split_end (from_seq (tl := [_, _]) zz zy rfl ?_)
   have s := P
   refine op_append slt24 (zC o rfl V) s (zC o rfl W) (Src.ofRd Tryz.underlying24 zz R (one_u16 _)) (by unfold maxLen; omega) zx hb.size ?_
   intro L K I J O
   have := J.size
   have hb := below_stepO hb s J hb.size zx
   have I : Own K w.heap.size 56 1 L (((0 + jj) + 1) + ((nrm (l.take i)).length - jj)) ((((((nrm (l.take i)).take jj) ++ [(l.getD i 0)]) ++ ((nrm (l.take i)).drop jj))).map u16v) := by simpa [u8v, u16v, cellsV] using I
   refine zD (zA o rfl) (zB (m _ _ (zH (zG (zC o rfl U) (op_add (zA o rfl) rfl (add64 zx) (zD (zA o rfl) (zB ?_)))))))
   -- round 9T 15F 43T
   have hins := insT_at (x := l.getD i 0) (acc := (nrm (l.take i))) (j := jj) hlt zx zx
   exact zg _ o M ⟨i + 1, _, rfl, (zL o rfl S), (zL o rfl T), (zU o rfl).trans (congrArg (Value.int .i64) zx), (zU o rfl), zx, (nrm_len zx), hb, zx, (I.cast (by rw [take_nrm zx, hins.2 (X.imp (fun q => by omega) fun q e => q (by rw [e]))]; simp; omega) (by rw [take_nrm zx, hins.2 (X.imp (fun q => by omega) fun q e => q (by rw [e]))]; try simp [u16v]))⟩ zx
  have X := of_decide_eq_false X
  refine wp_skip (m _ _ (zH (zG (zC y rfl F) (op_add (zA y rfl) rfl (add64 zx) (zD (zA y rfl) (zB ?_))))))
  -- round 9T 15F 43F
  have hins := insT_at (x := l.getD i 0) (acc := (nrm (l.take i))) (j := jj) hlt zx zx
  exact zg _ y G ⟨i + 1, _, rfl, (zL y rfl D), (zL y rfl H), (zU y rfl).trans (congrArg (Value.int .i64) zx), (zL y rfl A), zx, (nrm_len zx), hb, zx, (g.cast (by rw [take_nrm zx, hins.1 ⟨by omega, u16_eq zx⟩]) (by rw [take_nrm zx, hins.1 ⟨by omega, u16_eq zx⟩]))⟩ zx
 refine zB (B _ _ (wp_cond_false (zA p rfl) (wp_exit (then_exit (then_exit (blk_hit (a _ _ (zF fun _ a => zH (zG (zC p rfl z) (zD (zA p rfl) (zB (a _ _ (wp_ret (ret1 rfl t (zA p rfl) ⟨_, rfl, ?_⟩))))))))))))))
 rw [take_all l zx] at g
 exact ⟨hb, g⟩

end Go.Proofs.YthflnkfghogaoaaGreat

namespace Go.Proofs.YthflnkfghogaoaaGreat
open Go.Gx
end Go.Proofs.YthflnkfghogaoaaGreat

namespace Go.Proofs.YthflnkfghogaoaaGreat
open Go.Gx
/-! how keys stand -/
end Go.Proofs.YthflnkfghogaoaaGreat
