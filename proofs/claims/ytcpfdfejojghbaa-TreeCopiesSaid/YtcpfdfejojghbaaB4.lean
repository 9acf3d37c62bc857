/- Nodes as they are looked at, level by level. -/
import Derived.Test.YtcpfdfejojghbaaB3
set_option linter.unusedVariables false
set_option linter.unusedSimpArgs false

namespace Go.Gx
open Go.Bt Go.RowKit
section
variable {V : Type} {κ : Kd V} {w w' : World} {F G H W R : Nat → Prop} {B base b h p q n : Nat} {L : List Nat} {P : List Nat} {ts : List (Tr V (h + 1))} {l0 : List (Tr V 0)}
def NodeV (κ : Kd V) (B : Nat) (w : World) (p n : Nat) (L : List Nat) : Prop :=
  p < B ∧ ∃ pv kv cv a b ca cb, Bx w p κ.tB [pv, kv, cv] ∧ RdC w 0 B κ.pc pv a ca ∧ RdC w 0 B 1 kv b cb ∧ RdC w 0 B 1 cv L.length (L.flatMap cN) ∧ n = (if L.length = 0 then a else b)
theorem NodeV.below (N : NodeV κ B w p n L) (hb : Below B w w') : NodeV κ B w' p n L := by
  obtain ⟨hp, pv, kv, cv, a, b, ca, cb, h1, h2, h3, h4, h5⟩ := N
  refine ⟨hp, pv, kv, cv, a, b, ca, cb, ?_, h2.below hb, h3.below hb, h4.below hb, h5⟩
  unfold Bx; rw [hb.block p hp]; exact h1
theorem leaf_view {t : Tr V 0} (T : TreeR κ R w 0 p t W) : NodeV κ w.heap.size w p (szT 0 t) [] := by
  obtain ⟨pv, D, hL, e⟩ := T
  refine ⟨hL.bx.lt, pv, nilV, nilV, _, 0, _, [], hL.bx, hL.op.rdw.mono (Nat.zero_le _) (Nat.le_refl _), RdC.nil _ _ _ _, RdC.nil _ _ _ _, ?_⟩
  show (t : List (Ky × V)).length = D.length
  rw [← e]; simp
theorem node_view {t : Tr V (h + 1)} (T : TreeR κ R w (h + 1) p t W) (hk : t.2.length = t.1.length + 1) : ∃ L G, NodeV κ w.heap.size w p (szT (h + 1) t) L ∧ KidsR κ R w h L t.2 G ∧ ∀ k, G k → W k := by
  obtain ⟨kv, cv, K, P, G, hN, hKs, e⟩ := T
  have hl : P.length = t.2.length := hKs.len
  refine ⟨P, G, ⟨hN.bx.lt, nilV, kv, cv, 0, _, [], _, hN.bx, RdC.nil _ _ _ _, hN.ok.rdw, hN.oc.rdw, ?_⟩, hKs, hN.wg⟩
  show t.1.length = _
  rw [if_neg (by omega), ← e]; simp
/-! all of a level -/
variable {α : Type} {A : Nat → α → (Nat → Prop) → Prop} {ys9 : List α} {a : α} {f : Nat → Prop}
theorem Kids.uncons (K : Kids A (p :: P) (a :: ys9) G) : ∃ f G0, A p a f ∧ Kids A P ys9 G0 ∧ Dj f G0 ∧ (∀ k, f k → G k) ∧ (∀ k, G0 k → G k) := K.cut1 (i := 0) (by simp)
theorem Kids.cons (K : Kids A P ys9 G) (hA : A p a f) (hd : Dj f G) : Kids A (p :: P) (a :: ys9) (fun k => f k ∨ G k) := K.ins (i := 0) (Nat.zero_le _) hA hd
theorem Kids.app {P2 : List Nat} {as2 : List α} {G2 : Nat → Prop} : ∀ {P : List Nat} {ys9 : List α} {G : Nat → Prop}, Kids A P ys9 G → Kids A P2 as2 G2 → Dj G G2 → ∃ G3, Kids A (P ++ P2) (ys9 ++ as2) G3 ∧ ∀ k, G3 k → G k ∨ G2 k
  | [], ys9, G, K, K2, hd => by
    have : ys9 = [] := List.eq_nil_of_length_eq_zero K.len.symm
    subst this
    exact ⟨G2, K2, fun k => .inr⟩
  | p :: P, [], G, K, K2, hd => by have := K.len; simp at this
  | p :: P, a :: ys9, G, K, K2, hd => by
    obtain ⟨f, G0, hA, K0, hf, s1, s2⟩ := K.uncons
    obtain ⟨G3, K3, h3⟩ := Kids.app K0 K2 (fun k h => hd k (s2 k h))
    exact ⟨_, K3.cons hA (fun k h1 h2 => (h3 k h2).elim (hf k h1) (hd k (s1 k h1))), fun k hk => hk.elim (fun h => .inl (s1 k h)) fun h => (h3 k h).imp (s2 k) id⟩
theorem leaf_views : ∀ {P : List Nat} {ts : List (Tr V 0)} {G : Nat → Prop}, KidsR κ R w 0 P ts G → ∀ i, i < P.length → NodeV κ w.heap.size w (P.getD i default) ((ts.map (szT 0)).getD i 0) []
  | [], _, _, _, i, hi => by simp at hi
  | p :: P, [], _, K, _, _ => by have := Kids.len K; simp at this
  | p :: P, t :: ts, G, K, i, hi => by
    obtain ⟨f, G0, hA, K0, _⟩ := Kids.uncons K
    cases i with
    | zero => exact leaf_view hA
    | succ i => exact leaf_views K0 i (by simpa using hi)
theorem node_views : ∀ {P : List Nat} {ts : List (Tr V (h + 1))} {G : Nat → Prop}, KidsR κ R w (h + 1) P ts G → (∀ t ∈ ts, t.2.length = t.1.length + 1) →
    ∃ (PP : List (List Nat)) (G' : Nat → Prop), PP.length = P.length ∧ (∀ i, i < P.length → NodeV κ w.heap.size w (P.getD i default) ((ts.map (szT (h + 1))).getD i 0) (PP.getD i [])) ∧ KidsR κ R w h PP.flatten (ts.flatMap fun t => t.2) G' ∧ ∀ k, G' k → G k
  | [], ts, G, K, _ => by
    have : ts = [] := List.eq_nil_of_length_eq_zero (Kids.len K).symm
    subst this
    exact ⟨[], NoB, rfl, fun i hi => absurd hi (Nat.not_lt_zero i), Kids.nil _, fun k hk => hk.elim⟩
  | p :: P, [], G, K, _ => by have := Kids.len K; simp at this
  | p :: P, t :: ts, G, K, hk => by
    obtain ⟨f, G0, hA, K0, hd, s1, s2⟩ := Kids.uncons K
    obtain ⟨L, G1, hN, hK1, hG1⟩ := node_view hA (hk t (List.mem_cons_self ..))
    obtain ⟨PP, G2, hl, hv, hK2, hG2⟩ := node_views K0 (fun t ht => hk t (List.mem_cons_of_mem _ ht))
    obtain ⟨G3, hK3, hG3⟩ := Kids.app hK1 hK2 (fun k h1 h2 => hd k (hG1 k h1) (hG2 k h2))
    refine ⟨L :: PP, G3, by simp [hl], fun i hi => ?_, hK3, fun k hk => (hG3 k hk).elim (fun h => s1 k (hG1 k h)) fun h => s2 k (hG2 k h)⟩
    cases i with
    | zero => exact hN
    | succ i => exact hv i (by simpa using hi)
theorem toL_pos : ∀ {h : Nat} {t : Tr V h}, Ok h t → 1 ≤ szT h t → 1 ≤ (toL h t).length
  | 0, t, _, h1 => h1
  | h + 1, (ks, cs), H, h1 => by
    obtain ⟨N, hs⟩ := ok_node.1 H
    obtain ⟨c, hc, okc, _⟩ := N.at (i := 0) (Nat.zero_le _)
    have hm := List.mem_of_getElem? hc
    have := toL_pos okc (by have := (hs c hm).1; omega)
    obtain ⟨p, hp⟩ : ∃ p, p ∈ toL h c := List.exists_mem_of_length_pos this
    exact List.length_pos_of_mem (List.mem_flatMap.2 ⟨c, hm, hp⟩)
theorem flat_ge {α β : Type} {f : α → List β} : ∀ {l : List α}, (∀ x ∈ l, 1 ≤ (f x).length) → l.length ≤ (l.flatMap f).length
  | [], _ => Nat.le_refl _
  | a :: l, h => by
    have h1 := h a (List.mem_cons_self ..)
    have h2 := flat_ge (f := f) (l := l) (fun x hx => h x (List.mem_cons_of_mem _ hx))
    rw [List.flatMap_cons, List.length_append, List.length_cons]; omega
def Now (κ : Kd V) (w : World) (P : List Nat) (rest : List (List Nat)) : Prop :=
  P = [] ∧ rest = [] ∨ ∃ h R G, ∃ ts : List (Tr V h), ts ≠ [] ∧ KidsR κ R w h P ts G ∧ (∀ t ∈ ts, Ok h t ∧ 1 ≤ szT h t) ∧ (ts.flatMap (toL h)).length ≤ 100000 ∧ rest = lvl h ts
theorem Now.done {rest : List (List Nat)} (N : Now κ w P rest) (hP : P = []) : rest = [] := by
  rcases N with ⟨_, h⟩ | ⟨h, R, G, ts, hne, hK, _⟩
  · exact h
  · exact absurd (List.eq_nil_of_length_eq_zero (by have := Kids.len hK; rw [hP] at this; exact this.symm)) hne
theorem take9 {α : Type} {l : List α} {i : Nat} {d : α} (h : i < l.length) : l.take (i + 1) = l.take i ++ [l.getD i d] := by
  have e : l.getD i d = l[i] := by simp [List.getD_eq_getElem?_getD, h]
  rw [e, List.take_append_getElem]
theorem ints_take {S : List Nat} {i : Nat} (h : i < S.length) : (S.take (i + 1)).map Int.ofNat = (S.take i).map Int.ofNat ++ [((S.getD i 0 : Nat) : Int)] := by
  rw [take9 (d := 0) h, List.map_append]; rfl
theorem flat_take9 {PP : List (List Nat)} {i : Nat} (h : i < PP.length) : (PP.take (i + 1)).flatten = (PP.take i).flatten ++ PP.getD i [] := by
  rw [take9 (d := []) h, List.flatten_append]; simp
theorem oall_snoc9 {w : World} {base : Nat} {acc : List (Value × List Int)} {v : Value} {r : List Int} (h : ∀ x9 ∈ acc, Own w base 3 1 x9.1 x9.2.length (x9.2.map (Value.int .i64))) (O : Own w base 3 1 v r.length (r.map (Value.int .i64))) : ∀ x9 ∈ acc ++ [(v, r)], Own w base 3 1 x9.1 x9.2.length (x9.2.map (Value.int .i64)) := fun x hx => by
  rcases List.mem_append.1 hx with hx | hx
  · exact h x hx
  · rw [List.mem_singleton.1 hx]; exact O
theorem Now.len {rest : List (List Nat)} (N : Now κ w P rest) : P.length ≤ 100000 := by
  rcases N with ⟨h, _⟩ | ⟨h, R, G, ts, hne, hK, hO, hn, _⟩
  · rw [h]; exact Nat.zero_le _
  · have hl : P.length = ts.length := Kids.len hK
    have := flat_ge (f := toL h) (l := ts) (fun t ht => toL_pos (hO t ht).1 (hO t ht).2)
    omega
theorem flat_le {PP : List (List Nat)} {i : Nat} : ((PP.take i).flatten).length ≤ PP.flatten.length := by
  conv => rhs; rw [← List.take_append_drop i PP, List.flatten_append, List.length_append]
  omega
theorem Now.step {rest : List (List Nat)} (N : Now κ w P rest) (hP : P ≠ [])   : ∃ (S : List Nat) (PP : List (List Nat)) (rest' : List (List Nat)), rest = S :: rest' ∧ S.length = P.length ∧ PP.length = P.length ∧ (∀ i, i < P.length → NodeV κ w.heap.size w (P.getD i default) (S.getD i 0) (PP.getD i [])) ∧ Now κ w PP.flatten rest' := by
  rcases N with ⟨h1, _⟩ | ⟨h, R, G, ts, hne, hK, hO, hn, rfl⟩
  · exact absurd h1 hP
  · have hl : P.length = ts.length := Kids.len hK
    match h, ts, hne, hK, hO, hn, hl with
    | 0, ts, hne, hK, hO, hn, hl =>
      refine ⟨ts.map (szT 0), List.replicate P.length [], [], rfl, by simp [hl], by simp, fun i hi => ?_, .inl ⟨by simp, rfl⟩⟩
      have e : (List.replicate P.length ([] : List Nat)).getD i [] = [] := by simp [List.getD_eq_getElem?_getD, hi]
      rw [e]; exact leaf_views hK i hi
    | h + 1, ts, hne, hK, hO, hn, hl =>
      have hk : ∀ t ∈ ts, t.2.length = t.1.length + 1 := fun t ht => (ok_node.1 (hO t ht).1).1.1
      obtain ⟨PP, G', h1, h2, h3, h4⟩ := node_views hK hk
      refine ⟨ts.map (szT (h + 1)), PP, lvl h (ts.flatMap fun t => t.2), rfl, by simp [hl], h1, h2, .inr ⟨h, R, G', _, ?_, h3, fun t ht => ?_, by rw [List.flatMap_assoc]; exact hn, rfl⟩⟩
      · obtain ⟨t, r, rfl⟩ : ∃ t r, ts = t :: r := List.exists_cons_of_ne_nil hne
        have := hk t (List.mem_cons_self ..)
        intro e
        rw [List.flatMap_cons] at e
        have e2 := (List.append_eq_nil_iff.1 e).1
        rw [e2] at this; simp at this
      · obtain ⟨c, hc, ht⟩ := List.mem_flatMap.1 ht
        obtain ⟨j, hj, rfl⟩ := List.getElem_of_mem ht
        have hh := ok_node.1 (hO c hc).1
        exact ⟨(hh.1.2.2 j _ (List.getElem?_eq_getElem hj)).1, by have := (hh.2 _ (List.getElem_mem hj)).1; omega⟩
theorem toL_h : ∀ {h : Nat} {t : Tr V h}, Ok h t → 1 ≤ szT h t → h + 1 ≤ (toL h t).length
  | 0, t, H, h1 => h1
  | h + 1, (ks, cs), H, h1 => by
    obtain ⟨N, hs⟩ := ok_node.1 H
    have h1' : 1 ≤ ks.length := h1
    have hk : cs.length = ks.length + 1 := N.1
    match cs, hk, N, hs with
    | c :: d :: r, hk, N, hs =>
      have a := toL_h (N.2.2 0 c rfl).1 (by have := (hs c (List.mem_cons_self ..)).1; omega)
      have b := toL_pos (N.2.2 1 d rfl).1 (by have := (hs d (List.mem_cons_of_mem _ (List.mem_cons_self ..))).1; omega)
      show h + 1 + 1 ≤ ((c :: d :: r).flatMap (toL h)).length
      rw [List.flatMap_cons, List.flatMap_cons, List.length_append, List.length_append]; omega
    | [], hk, _, _ => simp at hk
    | [c], hk, _, _ => exact absurd hk (by simp only [List.length_cons, List.length_nil]; omega)
theorem ks_snoc {D : List (DP V)} {d : DP V} (ks : ∀ x9 ∈ D.map pk, Own w base 5 1 x9.1 x9.2.length (x9.2.map u8v)) (O : Own w base 5 1 d.1 d.2.1.length (d.2.1.map u8v)) : ∀ x9 ∈ (D ++ [d]).map pk, Own w base 5 1 x9.1 x9.2.length (x9.2.map u8v) := fun x hx => by
  rw [List.map_append, List.mem_append] at hx
  rcases hx with hx | hx
  · exact ks x hx
  · rw [show ([d] : List (DP V)).map pk = [pk d] from rfl, List.mem_singleton] at hx
    subst hx; exact O
theorem levels_le {o : TO V} (H : OkO o) : (levels o).length ≤ (toLO o).length := by
  match o, H with
  | none, _ => exact Nat.le_refl _
  | some ⟨h, t⟩, H => show (lvl h [t]).length ≤ _; rw [lvl_len]; exact toL_h H.1 H.2.1
theorem levels_sum {o : TO V} : ((levels o).getD ((levels o).length - 1) []).sum = (toLO o).length := by
  match o with
  | none => rfl
  | some ⟨h, t⟩ =>
    have a := lvl_last (h := h) (now := [t])
    have b : (lvl h [t]).length = h + 1 := lvl_len
    show ((lvl h [t]).getD ((lvl h [t]).length - 1) []).sum = (toL h t).length
    rw [List.getLast?_eq_getElem?] at a
    rw [List.getD_eq_getElem?_getD]
    have e : (lvl h [t])[(lvl h [t]).length - 1]? = some ((lvl h [t])[(lvl h [t]).length - 1]'(by omega)) := List.getElem?_eq_getElem (by omega)
    rw [e] at a ⊢
    simpa using a
theorem now_start {q : Nat} {h : Nat} {t : Tr V h} (T : TreeR κ R w h q t W) (H : Ok h t) (h1 : 1 ≤ szT h t) (hn : (toL h t).length ≤ 100000) : Now κ w [q] (levels (some ⟨h, t⟩ : TO V)) :=
  .inr ⟨h, R, _, [t], by simp, Kids.ins (i := 0) (Kids.nil _) (Nat.zero_le _) T (fun _ _ h => h), fun c hc => by rw [List.mem_singleton.1 hc]; exact ⟨H, h1⟩, by simpa using hn, rfl⟩
theorem sum_take9 {L : List Nat} {i : Nat} (h : i < L.length) : (L.take (i + 1)).sum = (L.take i).sum + L.getD i 0 := by
  rw [take9 (d := 0) h, List.sum_append]; simp
theorem sum_le9 {L : List Nat} {i : Nat} : (L.take i).sum ≤ L.sum := by
  conv => rhs; rw [← List.take_append_drop i L, List.sum_append]
  omega
theorem ints_at {L : List Nat} {i : Nat} : (L.map Int.ofNat).getD i 0 = ((L.getD i 0 : Nat) : Int) := by
  simp only [List.getD_eq_getElem?_getD, List.getElem?_map]
  cases L[i]? <;> rfl
theorem lev_at {LL : List (Value × List Int)} {lv : List (List Nat)} (h : LL.map Prod.snd = lv.map (fun l => l.map Int.ofNat)) (i : Nat) : (LL.getD i default).2 = (lv.getD i []).map Int.ofNat := by
  have e := congrArg (fun l => l[i]?) h
  simp only [List.getElem?_map] at e
  simp only [List.getD_eq_getElem?_getD]
  cases h1 : LL[i]? <;> cases h2 : lv[i]? <;> simp [h1, h2] at e ⊢
  · rfl
  · exact e
theorem lev_len {LL : List (Value × List Int)} {lv : List (List Nat)} (h : LL.map Prod.snd = lv.map (fun l => l.map Int.ofNat)) : LL.length = lv.length := by
  have := congrArg List.length h; simpa using this
end
end Go.Gx

namespace Go.Proofs.Ytcpfdfejojghbaa
open Go.Gx Go.RowKit
attribute [local irreducible] wpList wpStill Code.wp Calls
open Go.Bt
theorem leafUI {p : Nat} {pv kv cv : Value} {a b : Nat} {ca cb : List Value} {L : List Nat} {B : Nat} {w : World} (hx : Bx w p 115 [pv, kv, cv]) (h2 : RdC w 0 B 2 pv a ca) (h3 : RdC w 0 B 1 kv b cb) (h4 : RdC w 0 B 1 cv L.length (L.flatMap cN)) : Ret Try.prog 81 #[(ptr p 0)] w (fun v' w' => v' = .bool (decide (L.length = 0)) ∧ w' = w) := by
 refine enter (N := 9) Try.func81 rfl rfl (by simp) fun a0 hN hd hA => ?_
 have s0 : a0.tmps.getD 0 undef = (ptr p 0) := hA 0 (by simp)
 clear hA
 refine seq_any fun K5 hK5 => one_reg (op_assign rfl (reg_nil (hK5 _ _ ?_)))
 refine seq_any fun K6 hK6 => one_reg (op_move (ev_base hN rfl s0) (op_nil (ev_hit hN rfl) (op_field fld115_2 (ev_hit hN rfl) (op_load1 (v := cv) one113 (ev_hit hN rfl) (hx.cell rfl) (op_len_rd Try.underlying113 (ev_hit hN rfl) h4 ?_)))))
 refine op_eql (ev_hit hN rfl) rfl (fun c8 => ?_) (fun c8 => ?_)
 ·
  refine op_assign (ev_hit hN rfl) (reg_nil (hK6 _ _ (wp_ret ?_)))
  refine ret1 rfl hd (ev_hit hN rfl) ⟨_, rfl, ?_⟩
  exact ⟨congrArg Value.bool (decide_eq_true (by omega)).symm, rfl⟩
 ·
  refine op_assign (ev_hit hN rfl) (reg_nil (hK6 _ _ (wp_ret ?_)))
  refine ret1 rfl hd (ev_hit hN rfl) ⟨_, rfl, ?_⟩
  exact ⟨congrArg Value.bool (decide_eq_false (by omega)).symm, rfl⟩

theorem sizeUI {p : Nat} {pv kv cv : Value} {a b n : Nat} {ca cb : List Value} {L : List Nat} {B : Nat} {w : World} (hx : Bx w p 115 [pv, kv, cv]) (h2 : RdC w 0 B 2 pv a ca) (h3 : RdC w 0 B 1 kv b cb) (h4 : RdC w 0 B 1 cv L.length (L.flatMap cN)) (h5 : n = if L.length = 0 then a else b) : Ret Try.prog 52 #[(ptr p 0)] w (fun v' w' => v' = .int .i64 (n : Int) ∧ w' = w) := by
 refine enter (N := 15) Try.func52 rfl rfl (by simp) fun a0 hN hd hA => ?_
 have s0 : a0.tmps.getD 0 undef = (ptr p 0) := hA 0 (by simp)
 clear hA
 refine seq_any fun K6 hK6 => one_reg (op_assign rfl ?_)
 refine reg_nil (hK6 _ _ (seq_any fun K7 hK7 => seq_any fun K8 hK8 => one_reg (op_move (ev_base hN rfl s0) (op_fn (vs := [(ptr p 0)]) ok81 ⟨(ev_hit hN rfl), trivial⟩ (Ret.flip (leafUI hx h2 h3 h4)) ?_))))
 rintro _ _ ⟨rfl, rfl⟩
 rcases Bool.eq_false_or_eq_true ((decide (L.length = 0))) with c4 | c4
 ·
  rw [c4]
  refine reg_nil (hK8 _ _ (wp_cond_true (ev_hit hN rfl) ?_))
  refine seq_any fun K9 hK9 => one_reg (op_move (ev_base hN rfl s0) (op_nil (ev_hit hN rfl) (op_field fld115_0 (ev_hit hN rfl) (op_load1 (v := pv) one48 (ev_hit hN rfl) (hx.cell rfl) (op_len_rd Try.underlying48 (ev_hit hN rfl) h2 ?_)))))
  refine op_assign (ev_hit hN rfl) (reg_nil (hK9 _ _ (wp_ret (then_ret ( ?_)))))
  refine ret1 rfl hd (ev_hit hN rfl) ⟨_, rfl, ?_⟩
  exact ⟨by rw [h5, if_pos (of_decide_eq_true c4)], rfl⟩
 ·
  rw [c4]
  refine reg_nil (hK8 _ _ (wp_cond_false (ev_hit hN rfl) (wp_skip (hK7 _ _ ?_))))
  refine seq_any fun K10 hK10 => one_reg (op_move (ev_base hN rfl s0) (op_nil (ev_hit hN rfl) (op_field fld115_1 (ev_hit hN rfl) (op_load1 (v := kv) one90 (ev_hit hN rfl) (hx.cell rfl) (op_len_rd Try.underlying90 (ev_hit hN rfl) h3 ?_)))))
  refine op_assign (ev_hit hN rfl) (reg_nil (hK10 _ _ (wp_ret ?_)))
  refine ret1 rfl hd (ev_hit hN rfl) ⟨_, rfl, ?_⟩
  exact ⟨by rw [h5, if_neg (of_decide_eq_false c4)], rfl⟩

theorem levels0I {p : Nat} {w : World} (hx : Bx w p 71 [.pointer none]) : Ret Try.prog 33 #[(ptr p 0)] w (fun v' w' => v' = .slice none 0 0 ∧ w' = w) := by
 refine enter (N := 50) Try.func33 rfl rfl (by simp) fun a0 hN hd hA => ?_
 have s0 : a0.tmps.getD 0 undef = (ptr p 0) := hA 0 (by simp)
 clear hA
 refine seq_any fun K2 hK2 => one_reg (op_assign rfl ?_)
 refine reg_nil (hK2 _ _ (seq_any fun K3 hK3 => seq_any fun K4 hK4 => one_reg (op_move (ev_base hN rfl s0) (op_peq_some ptrt45 (ev_hit hN rfl) rfl ?_))))
 refine op_move (ev_hit hN rfl) (g_true (j := 2) (dj := 11) (b := false) rfl rfl rfl (ev_hit hN rfl) (op_move (ev_base hN rfl s0) (g_true (j := 2) (dj := 11) (b := false) rfl rfl rfl (ev_hit hN rfl) ?_)))
 refine op_nil (ev_hit hN rfl) (g_true (j := 2) (dj := 11) (b := false) rfl rfl rfl (ev_hit hN rfl) (op_field fld71_0 (ev_hit hN rfl) (g_true (j := 2) (dj := 11) (b := false) rfl rfl rfl (ev_hit hN rfl) (op_load1 (v := (Value.pointer none)) one69 (ev_hit hN rfl) (hx.cell rfl) (g_true (j := 2) (dj := 11) (b := false) rfl rfl rfl (ev_hit hN rfl) (op_peq_none ptrt69 (ev_hit hN rfl) rfl ?_))))))
 refine op_pick_f (ev_hit hN rfl) (ev_hit hN rfl) ?_
 refine reg_nil (hK4 _ _ ?_)
 refine wp_cond_true (ev_hit hN rfl) (seq_any fun K5 hK5 => one_reg (op_assign rfl (reg_nil (hK5 _ _ (wp_ret (then_ret ( ?_)))))))
 refine ret1 rfl hd (ev_hit hN rfl) ⟨_, rfl, ?_⟩
 exact ⟨rfl, rfl⟩

theorem levels1I {o : TO (Int)} {p q : Nat} {w : World} (hx : Bx w p 71 [ptr q 0]) (hNow0 : Now kI w [q] (levels o)) (hlv : (levels o).length ≤ 100000) : Ret Try.prog 33 #[(ptr p 0)] w (fun v' w' => Below w.heap.size w w' ∧ ∃ LL : List (Value × List Int), Own w' w.heap.size 30 1 v' LL.length (LL.flatMap (fun x9 => [x9.1])) ∧ (∀ x9 ∈ LL, Own w' w.heap.size 3 1 x9.1 x9.2.length (x9.2.map (Value.int .i64))) ∧ LL.map Prod.snd = (levels o).map (fun l => l.map Int.ofNat)) := by
 have hb := Below.refl w.heap.size w
 refine enter (N := 50) Try.func33 rfl rfl (by simp) fun a0 hN hd hA => ?_
 have s0 : a0.tmps.getD 0 undef = (ptr p 0) := hA 0 (by simp)
 clear hA
 refine seq_any fun K7 hK7 => one_reg (op_assign rfl ?_)
 refine reg_nil (hK7 _ _ (seq_any fun K10 hK10 => seq_any fun K11 hK11 => one_reg (op_move (ev_base hN rfl s0) (op_peq_some ptrt45 (ev_hit hN rfl) rfl ?_))))
 refine op_move (ev_hit hN rfl) (g_true (j := 2) (dj := 11) (b := false) rfl rfl rfl (ev_hit hN rfl) (op_move (ev_base hN rfl s0) (g_true (j := 2) (dj := 11) (b := false) rfl rfl rfl (ev_hit hN rfl) ?_)))
 refine op_nil (ev_hit hN rfl) (g_true (j := 2) (dj := 11) (b := false) rfl rfl rfl (ev_hit hN rfl) (op_field fld71_0 (ev_hit hN rfl) (g_true (j := 2) (dj := 11) (b := false) rfl rfl rfl (ev_hit hN rfl) (op_load1 (v := (ptr q 0)) one69 (ev_hit hN rfl) (hx.cell rfl) (g_true (j := 2) (dj := 11) (b := false) rfl rfl rfl (ev_hit hN rfl) (op_peq_some ptrt69 (ev_hit hN rfl) rfl ?_))))))
 refine op_pick_f (ev_hit hN rfl) (ev_hit hN rfl) ?_
 refine reg_nil (hK11 _ _ (wp_cond_false (ev_hit hN rfl) (wp_skip ?_)))
 refine hK10 _ _ (seq_any fun K12 hK12 => one_reg (op_assign rfl (reg_nil (hK12 _ _ (seq_any fun K13 hK13 => ?_)))))
 refine seq_any fun K14 hK14 => one_reg (op_move (ev_base hN rfl s0) (op_nil (ev_hit hN rfl) (op_field fld71_0 (ev_hit hN rfl) (op_load1 (v := (ptr q 0)) one69 (ev_hit hN rfl) (hx.cell rfl) (op_bslice (e := 69) (pv := [(0, (ptr q 0))]) (cs := [(ptr q 0)]) ⟨rfl, (ev_hit hN rfl), trivial⟩ (by kernel_rfl) ?_)))))
 intro w15 b16 lo_b16 hi_b16 hB18 E17
 have z_w15 := E17.size
 have hx := hx.keep0 E17
 have hb := below_step0 hb E17 hb.size
 refine op_assign (ev_hit hN rfl) (reg_nil (hK14 _ _ (wp_block ?_)))
 refine loop_m (fun mz_ az_ w' => ∃ (u nv : Value) (acc : List (Value × List Int)) (P : List Nat) (rest : List (List Nat)), mz_ = rest.length ∧ (az_.tmps.getD 2 undef = (Value.slice none 0 0)) ∧ (az_.tmps.getD 3 undef = u) ∧ (az_.tmps.getD 4 undef = nv) ∧ (Now kI w P rest) ∧ (acc.map Prod.snd ++ rest.map (fun l => l.map Int.ofNat) = (levels o).map (fun l => l.map Int.ofNat)) ∧ (Below w.heap.size w w') ∧ (w15.heap.size ≤ w'.heap.size) ∧ (Bx w' p 71 [(ptr q 0)]) ∧ (∀ x9 ∈ acc, Own w' w.heap.size 3 1 x9.1 x9.2.length (x9.2.map (Value.int .i64))) ∧ (Own w' w.heap.size 30 1 u acc.length (acc.flatMap (fun x9 => [x9.1]))) ∧ (Own w' w.heap.size 69 1 nv P.length (P.flatMap cN))) _ hN hd ⟨_, _, [], [q], (levels o), rfl, (sl_hit hN rfl), (sl_hit hN rfl), (sl_hit hN rfl), hNow0, rfl, hb, (Nat.le_refl _), hx, (fun x9 hx9 => absurd hx9 List.not_mem_nil), (Own.nil _ _ _ _), (Own.ofBx (base := w.heap.size) (sz := 1) (n := 1) hB18 rfl (by decide) (by omega))⟩ ?_
 rintro _ a19 w19 hN19 hd19 ⟨u, nv, acc, P, rest, rfl, s19_2, s19_3, s19_4, hNow, hlev, hb, zl_w19, hx, hall, hO20, hO21⟩
 have z_w19 := hb.size
 refine seq_any fun K22 hK22 => seq_any fun K23 hK23 => one_reg (op_move (ev_base hN19 rfl s19_4) (op_len_rd Try.underlying113 (ev_hit hN19 rfl) hO21.rdw ?_))
 refine op_gtr (ev_hit hN19 rfl) rfl (fun c25 => ?_) (fun c25 => ?_)
 ·
  refine reg_nil (hK23 _ _ (wp_cond_true (ev_hit hN19 rfl) (wp_skip (hK22 _ _ (wp_block ?_)))))
  refine seq_any fun K24 hK24 => one_reg (op_assign rfl (reg_nil (hK24 _ _ (seq_any fun K31 hK31 => one_reg ?_))))
  refine op_assign rfl (reg_nil (hK31 _ _ (seq_any fun K32 hK32 => seq_any fun K33 hK33 => one_reg (op_move (ev_base hN19 rfl s19_4) ?_))))
  have hPn := hNow.len
  obtain ⟨S, PP, rest2, hr2, hS, hPP, hV, hNx⟩ := hNow.step (fun e => by rw [e] at c25; exact absurd c25 (by decide))
  have hFn := hNx.len
  have hfl : ∀ j, ((PP.take j).flatten).length ≤ PP.flatten.length := fun j => flat_le
  refine op_len_rd Try.underlying113 (ev_hit hN19 rfl) hO21.rdw ?_
  refine op_move rfl (reg_nil (hK33 _ _ (wp_block ?_)))
  refine loop_m (fun mz_ az_ w' => ∃ (i : Nat) (szv xv : Value), mz_ = P.length - i ∧ (az_.tmps.getD 2 undef = (Value.slice none 0 0)) ∧ (az_.tmps.getD 3 undef = u) ∧ (az_.tmps.getD 4 undef = nv) ∧ (az_.tmps.getD 26 undef = nv) ∧ (az_.tmps.getD 27 undef = (Value.int .i64 ((P.length : Nat) : Int))) ∧ (az_.tmps.getD 28 undef = (Value.int .i64 ((i : Nat) : Int))) ∧ (az_.tmps.getD 5 undef = szv) ∧ (az_.tmps.getD 6 undef = xv) ∧ (i ≤ P.length) ∧ (∀ x9 ∈ acc, DJ x9.1 szv) ∧ (DJ nv xv) ∧ (Below w.heap.size w w') ∧ (w19.heap.size ≤ w'.heap.size) ∧ (Bx w' p 71 [(ptr q 0)]) ∧ (∀ x9 ∈ acc, Own w' w.heap.size 3 1 x9.1 x9.2.length (x9.2.map (Value.int .i64))) ∧ (Own w' w.heap.size 30 1 u acc.length (acc.flatMap (fun x9 => [x9.1]))) ∧ (Own w' w.heap.size 69 1 nv P.length (P.flatMap cN)) ∧ (Own w' w.heap.size 3 1 szv i (((S.take i).map Int.ofNat).map (Value.int .i64))) ∧ (Own w' w.heap.size 69 1 xv ((PP.take i).flatten).length (((PP.take i).flatten).flatMap cN))) _ hN19 hd19 ⟨0, _, _, rfl, (sl_base hN19 rfl s19_2), (sl_base hN19 rfl s19_3), (sl_base hN19 rfl s19_4), (sl_hit hN19 rfl), (sl_hit hN19 rfl), (sl_hit hN19 rfl), (sl_hit hN19 rfl), (sl_hit hN19 rfl), (Nat.zero_le _), (fun x9 _ => dj_nil x9.1), (dj_nil _), hb, (Nat.le_refl _), hx, hall, hO20, hO21, (Own.nil _ _ _ _), (Own.nil _ _ _ _)⟩ ?_
  rintro _ a34 w34 hN34 hd34 ⟨i, szv, xv, rfl, s34_2, s34_3, s34_4, s34_26, s34_27, s34_28, s34_5, s34_6, hi, djs, djx, hb, zl_w34, hx, hall, hO20, hO21, hO35, hO36⟩
  have z_w34 := hb.size
  refine seq_any fun K37 hK37 => ?_
  refine one_reg (op_lss (ev_base hN34 rfl s34_28) (ev_base hN34 rfl s34_27) (fun c29 => ?_) (fun c29 => ?_))
  ·
   refine reg_nil ?_
   refine hK37 _ _ (seq_any fun K38 hK38 => wp_cond_true (ev_hit hN34 rfl) (wp_skip (hK38 _ _ (seq_any fun K39 hK39 => wp_block ?_))))
   refine seq_any fun K40 hK40 => one_reg (op_index_rd slt113 (ev_base hN34 rfl s34_26) hO21.rdw (ev_base hN34 rfl s34_28) (by omega) (by omega) ?_)
   intro b41 o42 h0b41 h1b41 hc43
   refine op_load1 (v := (ptr (P.getD i default) 0)) one69 (ev_hit hN34 rfl) (by have := hc43 0 (ptr (P.getD i default) 0) (by decide) (el_pn (i := i) (by omega) (by first | omega | (simp only [List.length_drop, List.length_take]; omega))); simpa using this) (op_assign (ev_hit hN34 rfl) (reg_nil (hK40 _ _ (seq_any fun K44 hK44 => one_reg (op_move (ev_base hN34 rfl s34_5) ?_)))))
   obtain ⟨hpB46, pv46, kv46, cv46, a_46, b_46, ca46, cb46, hx46, h2_46, h3_46, h4_46, h5_46⟩ := (hV i (by omega)).below hb
   have hx46 : Bx w34 (P.getD i default) 115 [pv46, kv46, cv46] := hx46
   refine op_move (ev_hit hN34 rfl) (op_fn (vs := [(ptr (P.getD i default) 0)]) ok52 ⟨(ev_hit hN34 rfl), trivial⟩ (Ret.flip (sizeUI hx46 h2_46 h3_46 h4_46 h5_46)) ?_)
   rintro _ _ ⟨rfl, rfl⟩
   refine op_bslice (e := 3) (pv := [(0, (Value.int .i64 (((S.getD i 0) : Nat) : Int)))]) (cs := [(Value.int .i64 (((S.getD i 0) : Nat) : Int))]) ⟨rfl, (ev_hit hN34 rfl), trivial⟩ (by kernel_rfl) ?_
   intro w47 b48 lo_b48 hi_b48 hB50 E49
   have z_w47 := E49.size
   have hx := hx.keep0 E49
   have hall := all9 hall fun _ h => h.keep0 E49
   have hO20 := hO20.keep0 E49
   have hO21 := hO21.keep0 E49
   have hO35 := hO35.keep0 E49
   have hO36 := hO36.keep0 E49
   have hx46 := hx46.keep0 E49
   have h4_46 := h4_46.keep0 E49
   have hb := below_step0 hb E49 hb.size
   have hfl1 := hfl i
   have hfl2 := hfl (i + 1)
   have hfl3 : ((PP.take (i + 1)).flatten).length = ((PP.take i).flatten).length + (PP.getD i []).length := by rw [flat_take9 (by omega), List.length_append]
   have hP57 := hO35
   refine op_append slt30 (ev_hit hN34 rfl) hP57 (ev_hit hN34 rfl) (Src.ofRd Try.underlying30 (by decide) (RdC.ofBx (sz := 1) (n := 1) hB50 rfl (by decide)) (by simp [Value.oneCell', u8v])) (by unfold maxLen; omega) (by omega) hb.size ?_
   intro v51 w53 hO55 E54 hm56
   have dja58 : ∀ x9 ∈ acc, DJ x9.1 v51 := fun x9 hx9 => DJ.step hm56 (fun k hk => ((hall x9 hx9).lt k hk).2) (djs x9 hx9)
   have z_w53 := E54.size
   have hx := hx.keepO hP57 E54 (by decide)
   have hall : ∀ x9 ∈ acc, Own w53 w.heap.size 3 1 x9.1 x9.2.length (x9.2.map (Value.int .i64)) := fun x9 hx9 => (hall x9 hx9).keepD E54 (djs x9 hx9)
   have hO20 := hO20.keepT hP57 E54 (by decide)
   have hO21 := hO21.keepT hP57 E54 (by decide)
   have hO36 := hO36.keepT hP57 E54 (by decide)
   have hx46 := hx46.keepO hP57 E54 (by decide)
   have h4_46 := h4_46.keepO hP57 E54 (by omega)
   have hb := below_stepO hb hP57 E54 hb.size (by omega)
   have hO55 : Own w53 w.heap.size 3 1 v51 (i + 1) (((((S.take i).map Int.ofNat) ++ [(((S.getD i 0) : Nat) : Int)])).map (Value.int .i64)) := by simpa [u8v, sv] using hO55
   refine op_assign (ev_hit hN34 rfl) (reg_nil ?_)
   refine hK44 _ _ (one_reg (op_move (ev_base hN34 rfl s34_6) (op_move (ev_hit hN34 rfl) (op_nil (ev_hit hN34 rfl) (op_field fld115_2 (ev_hit hN34 rfl) (op_load1 (v := cv46) one113 (ev_hit hN34 rfl) (hx46.cell rfl) ?_))))))
   have hP65 := hO36
   refine op_append slt113 (ev_hit hN34 rfl) hP65 (ev_hit hN34 rfl) (Src.ofRd Try.underlying113 (by decide) h4_46 (one_pn _)) (by unfold maxLen; omega) (by omega) hb.size ?_
   intro v59 w60 hO62 E61 hm63
   have dj66 : DJ nv v59 := DJ.step hm63 (fun k hk => (hO21.lt k hk).2) djx
   have z_w60 := E61.size
   have hx := hx.keepO hP65 E61 (by decide)
   have hall := all9 hall fun _ h => h.keepT hP65 E61 (by decide)
   have hO20 := hO20.keepT hP65 E61 (by decide)
   have hO21 := hO21.keepD E61 djx
   have hO55 := hO55.keepT hP65 E61 (by decide)
   have hb := below_stepO hb hP65 E61 hb.size (by omega)
   have hO62 : Own w60 w.heap.size 69 1 v59 (((PP.take i).flatten).length + (PP.getD i []).length) (((((PP.take i).flatten) ++ (PP.getD i []))).flatMap cN) := by simpa [u8v, sv] using hO62
   refine op_assign (ev_hit hN34 rfl) (reg_nil (hK39 _ _ (one_reg (op_add (ev_base hN34 rfl s34_28) rfl (add64 (by omega)) ?_))))
   refine op_move (ev_hit hN34 rfl) (reg_nil ?_)
   -- round 25T 29T
   exact loop_next _ hN34 hd34 ⟨(i + 1), _, _, rfl, (sl_base hN34 rfl s34_2), (sl_base hN34 rfl s34_3), (sl_base hN34 rfl s34_4), (sl_base hN34 rfl s34_26), (sl_base hN34 rfl s34_27), (sl_hit hN34 rfl).trans (congrArg (Value.int .i64) (by omega)), (sl_hit hN34 rfl), (sl_hit hN34 rfl), (by omega), dja58, dj66, hb, (by omega), hx, hall, hO20, hO21, (hO55.cast (by omega) (by rw [ints_take (by omega)] <;> simp)), (hO62.cast (by rw [flat_take9 (by omega)] <;> simp) (by rw [flat_take9 (by omega)] <;> simp))⟩ (by omega)
  ·
   refine reg_nil (hK37 _ _ (seq_any fun K67 hK67 => wp_cond_false (ev_hit hN34 rfl) (wp_exit (then_exit (then_exit (blk_hit ?_))))))
   refine hK32 _ _ (one_reg ?_)
   have hal : acc.length + rest.length = (levels o).length := by have := congrArg List.length hlev; simpa using this
   refine op_move (ev_base hN34 rfl s34_3) (op_move (ev_base hN34 rfl s34_5) (op_bslice (e := 30) (pv := [(0, szv)]) (cs := [szv]) ⟨rfl, (ev_hit hN34 rfl), trivial⟩ (by obtain ⟨_, _, _, rfl⟩ := hO35.sl; kernel_rfl) ?_))
   intro w68 b70 lo_b70 hi_b70 hB73 E72
   have z_w68 := E72.size
   have hx := hx.keep0 E72
   have hall := all9 hall fun _ h => h.keep0 E72
   have hO20 := hO20.keep0 E72
   have hO35 := hO35.keep0 E72
   have hO36 := hO36.keep0 E72
   have hb := below_step0 hb E72 hb.size
   have hP79 := hO20
   refine op_append slt28 (ev_hit hN34 rfl) hP79 (ev_hit hN34 rfl) (Src.ofRd Try.underlying28 (by decide) (RdC.ofBx (sz := 1) (n := 1) hB73 rfl (by decide)) (by simp only [List.all_cons, List.all_nil, Bool.true_and, Bool.and_true, hO35.one]; try rfl)) (by unfold maxLen; omega) (by omega) hb.size ?_
   intro v74 w75 hO77 E76 hm78
   have z_w75 := E76.size
   have hx := hx.keepO hP79 E76 (by decide)
   have hall := all9 hall fun _ h => h.keepT hP79 E76 (by decide)
   have hO35 := hO35.keepT hP79 E76 (by decide)
   have hO36 := hO36.keepT hP79 E76 (by decide)
   have hb := below_stepO hb hP79 E76 hb.size (by omega)
   have hO77 : Own w75 w.heap.size 30 1 v74 (acc.length + 1) ((acc.flatMap (fun x9 => [x9.1]) ++ [szv])) := by simpa [u8v, sv] using hO77
   refine op_move (ev_base hN34 rfl s34_6) (op_assign (ev_hit hN34 rfl) (op_assign (ev_hit hN34 rfl) (reg_nil (blk_normal ?_))))
   -- round 25T 29F
   exact loop_next _ hN34 hd34 ⟨_, _, (acc ++ [(szv, S.map Int.ofNat)]), PP.flatten, rest2, rfl, (sl_base hN34 rfl s34_2), (sl_hit hN34 rfl), (sl_hit hN34 rfl), hNx, (by rw [← hlev, hr2]; simp), hb, (by omega), hx, (oall_snoc9 hall (hO35.cast (by simp; omega) (by rw [List.take_of_length_le (by omega)]))), (hO77.cast (by simp) (by simp)), (hO36.cast (by rw [List.take_of_length_le (by omega)]) (by rw [List.take_of_length_le (by omega)]))⟩ (by rw [hr2]; simp)
 ·
  refine reg_nil (hK23 _ _ (wp_cond_false (ev_hit hN19 rfl) (wp_exit (then_exit (then_exit (blk_hit ?_))))))
  refine hK13 _ _ ?_
  refine seq_any fun K80 hK80 => one_reg (op_move (ev_base hN19 rfl s19_3) (op_assign (ev_hit hN19 rfl) (reg_nil (hK80 _ _ (wp_ret ?_)))))
  refine ret1 rfl hd19 (ev_hit hN19 rfl) ⟨_, rfl, ?_⟩
  have hP0 : P = [] := List.eq_nil_of_length_eq_zero (by omega)
  have hr0 := hNow.done hP0
  exact ⟨hb, acc, hO20, hall, by rw [← hlev, hr0]; simp⟩
theorem levelsTopI {o : TO (Int)} {F : Nat → Prop} {p base : Nat} {w : World} (hT : TopR kI 71 base w p o F) (hn : (toLO o).length ≤ 100000) : Ret Try.prog 33 #[ptr p 0] w (fun v' w' => Below w.heap.size w w' ∧ ∃ LL : List (Value × List Int), Own w' w.heap.size 30 1 v' LL.length (LL.flatMap (fun x9 => [x9.1])) ∧ (∀ x9 ∈ LL, Own w' w.heap.size 3 1 x9.1 x9.2.length (x9.2.map (Value.int .i64))) ∧ LL.map Prod.snd = (levels o).map (fun l => l.map Int.ofNat)) := by
  obtain ⟨hF, hlt, hO, root, hB', hr⟩ := hT
  rcases hr with ⟨rfl, rfl⟩ | ⟨q, R, W, rfl, hTO, hFW, hFR⟩
  · exact (levels0I hB').mono fun v' w' h => by
      obtain ⟨rfl, rfl⟩ := h
      exact ⟨Below.refl _ _, [], Own.nil _ _ _ _, fun _ h => (by cases h), rfl⟩
  · match o, hO, hTO, hn with
    | some ⟨h, t⟩, hO, hTO, hn => exact levels1I hB' (now_start hTO hO.1 hO.2.1 hn) (Nat.le_trans (levels_le hO) hn)
theorem lenTopI {o : TO (Int)} {F : Nat → Prop} {p base : Nat} {w : World} (hT : TopR kI 71 base w p o F) (hn : (toLO o).length ≤ 100000) : Ret Try.prog 25 #[(ptr p 0)] w (fun v' w' => Below w.heap.size w w' ∧ v' = .int .i64 ((toLO o).length : Int)) := by
 have hO9 := hT.2.2.1
 have hb := Below.refl w.heap.size w
 refine enter (N := 28) Try.func25 rfl rfl (by simp) fun a0 hN hd hA => ?_
 have s0 : a0.tmps.getD 0 undef = (ptr p 0) := hA 0 (by simp)
 clear hA
 refine seq_any fun K5 hK5 => one_reg ?_
 refine op_assign rfl (reg_nil (hK5 _ _ (seq_any fun K6 hK6 => one_reg (op_move (ev_base hN rfl s0) (op_fn (vs := [(ptr p 0)]) ok33 ⟨(ev_hit hN rfl), trivial⟩ (levelsTopI hT hn) ?_)))))
 rintro v7 w8 ⟨E10, LL, hO7, hA7, hlev⟩
 have E10 := grown_of_below E10
 have z_w8 := E10.size
 have hT := hT.kz E10
 have hb := below_step0 hb E10 hb.size
 have hLn := lev_len hlev
 have hle := levels_le hO9
 have hsum := levels_sum (o := o)
 refine op_assign (ev_hit hN rfl) (reg_nil (hK6 _ _ (seq_any fun K12 hK12 => one_reg (op_assign rfl ?_))))
 refine reg_nil (hK12 _ _ (seq_any fun K13 hK13 => seq_any fun K14 hK14 => one_reg (op_move (ev_hit hN rfl) (op_len_rd Try.underlying28 (ev_hit hN rfl) hO7.rdw ?_))))
 refine op_gtr (ev_hit hN rfl) rfl (fun c11 => ?_) (fun c11 => ?_)
 ·
  refine reg_nil ?_
  refine hK14 _ _ (wp_cond_true (ev_hit hN rfl) (seq_any fun K15 hK15 => one_reg (op_move (ev_hit hN rfl) (op_move (ev_hit hN rfl) (op_len_rd Try.underlying28 (ev_hit hN rfl) hO7.rdw ?_)))))
  refine op_sub (r := ((LL.length - 1 : Nat) : Int)) (ev_hit hN rfl) rfl ((sub64 (by omega)).trans (by omega)) ?_
  refine op_index_rd slt28 (ev_hit hN rfl) hO7.rdw (ev_hit hN rfl) (by omega) (by omega) ?_
  intro b16 o21 h0b16 h1b16 hc22
  have hs23 : Own w8 w.heap.size 3 1 (LL.getD (LL.length - 1) default).1 (LL.getD (LL.length - 1) default).2.length ((LL.getD (LL.length - 1) default).2.map (Value.int .i64)) := hA7 _ (getD_mem (by omega))
  refine op_load1 (v := (LL.getD (LL.length - 1) default).1) one30 (ev_hit hN rfl) (by have := hc22 0 (LL.getD (LL.length - 1) default).1 (by decide) (el_ll (i := (LL.length - 1)) (d := default) (by omega) (by omega)); simpa using this) ?_
  have hlm := rd_len hs23.rdw
  have hLat := lev_at hlev (LL.length - 1)
  have hLl : (LL.getD (LL.length - 1) default).2.length = ((levels o).getD (LL.length - 1) []).length := by rw [hLat]; simp
  rw [← hLn] at hsum
  refine op_len_rd Try.underlying30 (ev_hit hN rfl) hs23.rdw ?_
  refine op_move rfl (reg_nil (hK15 _ _ (wp_block ?_)))
  refine loop_m (fun mz_ az_ w' => ∃ (i : Nat), mz_ = ((levels o).getD (LL.length - 1) []).length - i ∧ (az_.tmps.getD 2 undef = (Value.int .i64 0)) ∧ (az_.tmps.getD 17 undef = (LL.getD (LL.length - 1) default).1) ∧ (az_.tmps.getD 18 undef = (Value.int .i64 (((LL.getD (LL.length - 1) default).2.length : Nat) : Int))) ∧ (az_.tmps.getD 19 undef = (Value.int .i64 ((i : Nat) : Int))) ∧ (az_.tmps.getD 4 undef = (Value.int .i64 ((((((levels o).getD (LL.length - 1) []).take i).sum) : Nat) : Int))) ∧ (i ≤ ((levels o).getD (LL.length - 1) []).length) ∧ (Below w.heap.size w w') ∧ (w8.heap.size ≤ w'.heap.size) ∧ (TopR kI 71 base w' p o F) ∧ (∀ x9 ∈ LL, Own w' w.heap.size 3 1 x9.1 x9.2.length (x9.2.map (Value.int .i64))) ∧ (Own w' w.heap.size 3 1 (LL.getD (LL.length - 1) default).1 (LL.getD (LL.length - 1) default).2.length ((LL.getD (LL.length - 1) default).2.map (Value.int .i64)))) _ hN hd ⟨0, rfl, (sl_hit hN rfl), (sl_hit hN rfl), (sl_hit hN rfl), (sl_hit hN rfl), (sl_hit hN rfl), (Nat.zero_le _), hb, (Nat.le_refl _), hT, hA7, hs23⟩ ?_
  rintro _ a24 w24 hN24 hd24 ⟨i, rfl, s24_2, s24_17, s24_18, s24_19, s24_4, hi, hb, zl_w24, hT, hA7, hs23⟩
  have z_w24 := hb.size
  refine seq_any fun K25 hK25 => ?_
  refine one_reg (op_lss (ev_base hN24 rfl s24_19) (ev_base hN24 rfl s24_18) (fun c20 => ?_) (fun c20 => ?_))
  ·
   refine reg_nil ?_
   refine hK25 _ _ (seq_any fun K26 hK26 => wp_cond_true (ev_hit hN24 rfl) (wp_skip (hK26 _ _ (seq_any fun K27 hK27 => wp_block ?_))))
   refine seq_any fun K29 hK29 => one_reg (op_index_rd slt30 (ev_base hN24 rfl s24_17) hs23.rdw (ev_base hN24 rfl s24_19) (by omega) (by omega) ?_)
   intro b31 o32 h0b31 h1b31 hc34
   refine op_load1 (v := (Value.int .i64 ((LL.getD (LL.length - 1) default).2.getD i 0))) one3 (ev_hit hN24 rfl) (by have := hc34 0 (Value.int .i64 ((LL.getD (LL.length - 1) default).2.getD i 0)) (by decide) (el_i64 (i := i) (by omega) (by omega)); simpa using this) ?_
   refine op_assign (ev_hit hN24 rfl) (reg_nil (hK29 _ _ (one_reg (op_move (ev_base hN24 rfl s24_4) (op_move (ev_hit hN24 rfl) (op_add (r := (((((levels o).getD (LL.length - 1) []).take i).sum + ((levels o).getD (LL.length - 1) []).getD i 0 : Nat) : Int)) (ev_hit hN24 rfl) (ev_hit hN24 rfl) (by rw [hLat, ints_at]; have q1 := sum_take9 (L := ((levels o).getD (LL.length - 1) [])) (i := i) (by omega); have q2 := sum_le9 (L := ((levels o).getD (LL.length - 1) [])) (i := i + 1); exact (add64 (by omega)).trans (by omega)) ?_))))))
   refine op_assign (ev_hit hN24 rfl) (reg_nil (hK27 _ _ (one_reg (op_add (ev_base hN24 rfl s24_19) rfl (add64 (by omega)) ?_))))
   refine op_move (ev_hit hN24 rfl) (reg_nil ?_)
   -- round 11T 20T
   exact loop_next _ hN24 hd24 ⟨(i + 1), rfl, (sl_base hN24 rfl s24_2), (sl_base hN24 rfl s24_17), (sl_base hN24 rfl s24_18), (sl_hit hN24 rfl).trans (congrArg (Value.int .i64) (by omega)), (sl_hit hN24 rfl).trans (congrArg (Value.int .i64) (by rw [sum_take9 (by omega)])), (by omega), hb, (by omega), hT, hA7, hs23⟩ (by omega)
  ·
   refine reg_nil (hK25 _ _ (seq_any fun K35 hK35 => wp_cond_false (ev_hit hN24 rfl) (wp_exit (then_exit (then_exit (blk_hit ?_))))))
   refine hK13 _ _ ?_
   refine seq_any fun K36 hK36 => one_reg (op_move (ev_base hN24 rfl s24_4) (op_assign (ev_hit hN24 rfl) (reg_nil (hK36 _ _ (wp_ret ?_)))))
   refine ret1 rfl hd24 (ev_hit hN24 rfl) ⟨_, rfl, ?_⟩
   exact ⟨hb, congrArg (Value.int .i64) (by rw [← hsum, List.take_of_length_le (by omega)])⟩
 ·
  refine reg_nil (hK14 _ _ (wp_cond_false (ev_hit hN rfl) (wp_skip (hK13 _ _ ?_))))
  refine seq_any fun K37 hK37 => one_reg (op_move (ev_hit hN rfl) (op_assign (ev_hit hN rfl) (reg_nil (hK37 _ _ (wp_ret ?_)))))
  refine ret1 rfl hd (ev_hit hN rfl) ⟨_, rfl, ?_⟩
  exact ⟨hb, congrArg (Value.int .i64) (by rw [← hsum]; rw [show (levels o) = [] from List.eq_nil_of_length_eq_zero (by omega)]; rfl)⟩
theorem scan1I {l : List UInt8} {kv : Value} {x : Int} {D : List (DP (Int))} {ov : Value} {m : Int} {ob lb base : Nat} {w : World} (hbase : base ≤ w.heap.size) (hob : Bx w ob 48 [ov]) (hlb : Bx w lb 3 [.int .i64 m]) (hne : ob ≠ lb) (O : Own w base 51 2 ov D.length (D.flatMap cI)) (ks : ∀ x9 ∈ D.map pk, Own w base 5 1 x9.1 x9.2.length (x9.2.map u8v)) (hkk : RdC w 0 w.heap.size 1 kv l.length (l.map u8v)) (hkn : l.length ≤ 1000000000) (hD : D.length ≤ 1000000) : Ret Try.prog 50 #[(Value.agg #[kv, (Value.int .i64 x)]), (ptr ob 0), (ptr lb 0)] w (fun v' w' => Gr w w' (fun y => y = ob ∨ Bl ov y) ∧ v' = .bool (decide (((D.length + 1 : Nat) : Int) < m)) ∧ ∃ ov' kv', Bx w' ob 48 [ov'] ∧ Own w' base 51 2 ov' (D ++ [(kv', l, x)]).length ((D ++ [(kv', l, x)]).flatMap cI) ∧ (∀ x9 ∈ (D ++ [(kv', l, x)]).map pk, Own w' base 5 1 x9.1 x9.2.length (x9.2.map u8v)) ∧ Bx w' lb 3 [.int .i64 m] ∧ (ov'.ownBlock = ov.ownBlock ∨ ∀ k, ov'.ownBlock = some k → w.heap.size ≤ k) ∧ ∀ k, kv'.ownBlock = some k → w.heap.size ≤ k) := by
 have hi_ob := hob.lt
 have hi_lb := hlb.lt
 have hb := Gr.refl w (fun y => y = ob ∨ Bl ov y)
 refine enter (N := 18) Try.func50 rfl rfl (by simp) fun a0 hN hd hA => ?_
 have s0 : a0.tmps.getD 0 undef = (Value.agg #[kv, (Value.int .i64 x)]) := hA 0 (by simp)
 have s1 : a0.tmps.getD 1 undef = (ptr ob 0) := hA 1 (by simp)
 have s2 : a0.tmps.getD 2 undef = (ptr lb 0) := hA 2 (by simp)
 clear hA
 refine seq_any fun K4 hK4 => one_reg (op_box (cs := [kv, (Value.int .i64 x)]) (ev_base hN rfl s0) rfl ?_)
 intro w14 b15 lo_b15 hi_b15 hB18 E16
 have ne_b15_ov : ov.ownBlock ≠ some b15 := fun hh => by have := (O.lt _ hh).2; omega
 have z_w14 := E16.size
 have hob := hob.keep0 E16
 have hlb := hlb.keep0 E16
 have O := O.keep0 E16
 have ks := all9 ks fun _ h => h.keep0 E16
 have hkk := hkk.keep0 E16
 have hb := hb.step0 E16
 refine op_assign rfl (reg_nil (hK4 _ _ (seq_any fun K19 hK19 => reg_split (hd := [_, _, _, _, _, _, _, _, _]) (tl := _) 9 mixed (by kernel_rfl) rfl rfl ?_)))
 refine any_env (φ := phiV [(fun uz => uz = ov), (fun uz => uz = (ptr b15 0)), (fun uz => uz = kv), (fun _ => True), (fun uz => uz = (ptr b15 1)), (fun uz => uz = (Value.int .i64 x)), (fun _ => True), (fun _ => True), (fun _ => True)]) (G := fun w' => Bx w' ob 48 [ov] ∧ Bx w' b15 51 [kv, (Value.int .i64 x)]) [3, 6, 7, 8] (by kernel_rfl) (by kernel_rfl) (by kernel_rfl) (by kernel_rfl) hN (fun w1 w2 E h => by obtain ⟨h0, h1⟩ := h; exact ⟨h0.keep0 E, h1.keep0 E⟩) ⟨hob, hB18⟩ (ObEs.cons ?_ (ObEs.cons ?_ (ObEs.cons ?_ (ObEs.pass rfl (ObEs.cons ?_ (ObEs.cons ?_ (ObEs.pass rfl (ObEs.pass rfl (ObEs.pass rfl (ObEs.nil)))))))))) (by simp only [putsL_defers]) ?_
 ·
  intro eA aA wA hNA hGA hbsA hdpA
  have qA_1 := (hbsA 1 rfl).trans (sl_base hN rfl s1)
  obtain ⟨hob, hB18⟩ := hGA
  refine op_load1 (v := ov) one48 (ev_base hNA rfl qA_1) (hob.cell rfl) ?_
  exact obE_end rfl rfl rfl
 ·
  intro eA aA wA hNA hGA hbsA hdpA
  have qA_3 := (hbsA 3 rfl).trans (sl_hit hN rfl)
  refine op_field fld51_0 (ev_base hNA rfl qA_3) ?_
  exact obE_end rfl rfl rfl
 ·
  intro eA aA wA hNA hGA hbsA hdpA
  have qA_6 : Sl aA 6 (ptr b15 0) := (hdpA 1 _ 6 (by kernel_rfl) rfl rfl).2 rfl
  obtain ⟨hob, hB18⟩ := hGA
  refine op_load1 (v := kv) one27 (ev_base hNA rfl qA_6) (hB18.cell rfl) ?_
  exact obE_end rfl rfl rfl
 ·
  intro eA aA wA hNA hGA hbsA hdpA
  have qA_3 := (hbsA 3 rfl).trans (sl_hit hN rfl)
  refine op_field fld51_1 (ev_base hNA rfl qA_3) ?_
  exact obE_end rfl rfl rfl
 ·
  intro eA aA wA hNA hGA hbsA hdpA
  have qA_9 : Sl aA 9 (ptr b15 1) := (hdpA 4 _ 9 (by kernel_rfl) rfl rfl).2 rfl
  obtain ⟨hob, hB18⟩ := hGA
  refine op_load1 (v := (Value.int .i64 x)) one3 (ev_base hNA rfl qA_9) (hB18.cell rfl) ?_
  exact obE_end rfl rfl rfl
 ·
  intro w20 E20 _ a20 hN20 hbs20 hdp20 o_ ho_; obtain rfl := Option.some.inj ho_
  have z_w20 := E20.size
  have hob := hob.keep0 E20
  have hlb := hlb.keep0 E20
  have O := O.keep0 E20
  have ks := all9 ks fun _ h => h.keep0 E20
  have hkk := hkk.keep0 E20
  have hB18 := hB18.keep0 E20
  have hb := hb.step0 E20
  have q20_7 : Sl a20 7 kv := (hdp20 2 _ 7 (by kernel_rfl) rfl rfl).2 rfl
  refine op_fn (vs := [kv]) ok41 ⟨(ev_base hN20 rfl q20_7), trivial⟩ (clB (hkk.mono (Nat.zero_le _) (by omega)) (by omega)) ?_
  rintro v21 w22 ⟨E23, hO21⟩
  have E23 := grown_of_below E23
  have z_w22 := E23.size
  have hob := hob.keep0 E23
  have hlb := hlb.keep0 E23
  have O := O.keep0 E23
  have ks := all9 ks fun _ h => h.keep0 E23
  have hB18 := hB18.keep0 E23
  have hb := hb.step0 E23
  have hO21 := hO21.mono (base' := w.heap.size) (by omega)
  skip
  skip
  refine ke_end rfl (by decide) rfl ⟨hob, hB18⟩ ?_
  intro w24 E24 _ a24 hN24 hbs24 hdp24 o_ ho_; obtain rfl := Option.some.inj ho_
  have z_w24 := E24.size
  have hob := hob.keep0 E24
  have hlb := hlb.keep0 E24
  have O := O.keep0 E24
  have ks := all9 ks fun _ h => h.keep0 E24
  have hB18 := hB18.keep0 E24
  have hO21 := hO21.keep0 E24
  have hb := hb.step0 E24
  have q24_8 : Sl a24 8 v21 := (Option.some.inj ((hdp24 3 _ 8 (by kernel_rfl) rfl rfl).1 0 rfl)).symm
  have q24_10 : Sl a24 10 (Value.int .i64 x) := (hdp24 5 _ 10 (by kernel_rfl) rfl rfl).2 rfl
  refine op_build (pv := [(0, v21), (1, (Value.int .i64 x))]) (v := (Value.agg #[v21, (Value.int .i64 x)])) ⟨rfl, (ev_base hN24 rfl q24_8), ⟨rfl, (ev_base hN24 rfl q24_10), trivial⟩⟩ (by obtain ⟨_, _, _, rfl⟩ := hO21.sl; kernel_rfl) ?_
  refine ke_end rfl (by decide) rfl ⟨hob, hB18⟩ ?_
  intro w25 E25 _ a25 hN25 hbs25 hdp25 o_ ho_; obtain rfl := Option.some.inj ho_
  have z_w25 := E25.size
  have hob := hob.keep0 E25
  have hlb := hlb.keep0 E25
  have O := O.keep0 E25
  have ks := all9 ks fun _ h => h.keep0 E25
  have hB18 := hB18.keep0 E25
  have hO21 := hO21.keep0 E25
  have hb := hb.step0 E25
  have q25_11 : Sl a25 11 (Value.agg #[v21, (Value.int .i64 x)]) := (Option.some.inj ((hdp25 6 _ 11 (by kernel_rfl) rfl rfl).1 1 rfl)).symm
  refine op_bslice (e := 51) (pv := [(0, (Value.agg #[v21, (Value.int .i64 x)]))]) (cs := [v21, (Value.int .i64 x)]) ⟨rfl, (ev_base hN25 rfl q25_11), trivial⟩ (by obtain ⟨_, _, _, rfl⟩ := hO21.sl; kernel_rfl) ?_
  intro w26 b28 lo_b28 hi_b28 hB30 E29
  have z_w26 := E29.size
  have hob := hob.keep0 E29
  have hlb := hlb.keep0 E29
  have O := O.keep0 E29
  have ks := all9 ks fun _ h => h.keep0 E29
  have hB18 := hB18.keep0 E29
  have hO21 := hO21.keep0 E29
  have hb := hb.step0 E29
  refine ke_end rfl (by decide) rfl ⟨hob, hB18⟩ ?_
  intro w31 E31 _ a31 hN31 hbs31 hdp31 o_ ho_; obtain rfl := Option.some.inj ho_
  have z_w31 := E31.size
  have hob := hob.keep0 E31
  have hlb := hlb.keep0 E31
  have O := O.keep0 E31
  have ks := all9 ks fun _ h => h.keep0 E31
  have hB18 := hB18.keep0 E31
  have hO21 := hO21.keep0 E31
  have hB30 := hB30.keep0 E31
  have hb := hb.step0 E31
  have q31_5 : Sl a31 5 ov := (hdp31 0 _ 5 (by kernel_rfl) rfl rfl).2 rfl
  have q31_12 : Sl a31 12 (Value.slice (some ⟨b28, 0, none⟩) 1 1) := (Option.some.inj ((hdp31 7 _ 12 (by kernel_rfl) rfl rfl).1 2 rfl)).symm
  have hP37 := O
  refine op_append slt48 (ev_base hN31 rfl q31_5) hP37 (ev_base hN31 rfl q31_12) (Src.ofRd Try.underlying48 (by decide) (RdC.ofBx (sz := 2) (n := 1) hB30 rfl (by decide)) (by simp only [List.all_cons, List.all_nil, Bool.true_and, Bool.and_true, hO21.one]; try rfl)) (by unfold maxLen; omega) (by omega) (Nat.le_trans (by assumption) hb.size) ?_
  intro v32 w33 hO35 E34 hm36
  have z_w33 := E34.size
  have hob := hob.keepO hP37 E34 (by decide)
  have hlb := hlb.keepO hP37 E34 (by decide)
  have ks := all9 ks fun _ h => h.keepT hP37 E34 (by decide)
  have hB18 := hB18.keep E34 (fun hh => ne_b15_ov hh.symm)
  have hO21 := hO21.keepT hP37 E34 (by decide)
  have hb := hb.stepL E34 (fun k _ h => .inr h)
  have hO35 : Own w33 base 51 2 v32 (D.length + 1) ((D.flatMap cI ++ [v21, (Value.int .i64 x)])) := by simpa [u8v, sv] using hO35
  refine ke_end rfl (by decide) rfl ⟨hob, hB18⟩ ?_
  intro w38 E38 a38 hN38 hd38 hbs38 hph38
  have hd38 := hd38.trans ((by simp only [putsL_defers] : _ = _).trans hd)
  have z_w38 := E38.size
  have hob := hob.keep0 E38
  have hlb := hlb.keep0 E38
  have ks := all9 ks fun _ h => h.keep0 E38
  have hO21 := hO21.keep0 E38
  have hO35 := hO35.keep0 E38
  have hb := hb.step0 E38
  have s38_1 := (hbs38 1 rfl).trans (sl_base hN rfl s1)
  have s38_2 := (hbs38 2 rfl).trans (sl_base hN rfl s2)
  have s38_13 : Sl a38 13 v32 := (Option.some.inj ((hph38 8 _ 13 rfl rfl).1 3 rfl)).symm
  refine split_end ?_
  refine from_seq (tl := [_]) (by decide) (by kernel_rfl) rfl ?_
  have hob_old := hob
  refine op_store (vs := [v32]) (cs' := [v32]) size48 (ev_base hN38 rfl s38_1) (ev_base hN38 rfl s38_13) hO35.cl rfl (by simp only [List.all_cons, List.all_nil, Bool.true_and, Bool.and_true, hO35.one]; try rfl) hob (Nat.le_of_ble_eq_true rfl) rfl ?_
  intro w39 hob E40
  have z_w39 := E40.size
  have hlb := hlb.keep E40 (fun hh => hlb.ne hob_old (by decide) (Option.some.inj hh))
  have ks := all9 ks fun _ h => h.keepX hob_old E40 (by decide)
  have hO21 := hO21.keepX hob_old E40 (by decide)
  have hO35 := hO35.keepX hob_old E40 (by decide)
  have hb := hb.stepB E40 (.inl rfl)
  refine reg_nil (hK19 _ _ (seq_any fun K42 hK42 => one_reg (op_load1 (v := v32) one48 (ev_base hN38 rfl s38_1) (hob.cell rfl) (op_len_rd Try.underlying48 (ev_hit hN38 rfl) hO35.rdw ?_))))
  refine op_load1 (v := (Value.int .i64 m)) one3 (ev_base hN38 rfl s38_2) (hlb.cell rfl) (op_lss (ev_hit hN38 rfl) (ev_hit hN38 rfl) (fun c17 => ?_) (fun c17 => ?_))
  ·
   refine op_assign (ev_hit hN38 rfl) (reg_nil (hK42 _ _ (wp_ret ?_)))
   refine ret1 rfl hd38 (ev_hit hN38 rfl) ⟨_, rfl, ?_⟩
   exact ⟨hb, congrArg Value.bool (decide_eq_true (by omega)).symm, v32, v21, hob, hO35.cast (by simp) (by simp [cI]), ks_snoc ks (hO21.mono (by omega)), hlb, hm36.imp id fun h k hk => Nat.le_trans (by omega) (h k hk), fun k hk => (hO21.lt k hk).1⟩
  ·
   refine op_assign (ev_hit hN38 rfl) (reg_nil (hK42 _ _ (wp_ret ?_)))
   refine ret1 rfl hd38 (ev_hit hN38 rfl) ⟨_, rfl, ?_⟩
   exact ⟨hb, congrArg Value.bool (decide_eq_false (by omega)).symm, v32, v21, hob, hO35.cast (by simp) (by simp [cI]), ks_snoc ks (hO21.mono (by omega)), hlb, hm36.imp id fun h k hk => Nat.le_trans (by omega) (h k hk), fun k hk => (hO21.lt k hk).1⟩

end Go.Proofs.Ytcpfdfejojghbaa

namespace Go.Gx
open Go.Bt Go.RowKit
section
variable {V : Type} {κ : Kd V} {w w' : World} {F G H W R : Nat → Prop} {B base b h p q n ob lb tS : Nat} {m : Int} {L : List Nat} {P : List Nat} {D D2 : List (DP V)} {ov : Value} {x : Ky}
def AccR (κ : Kd V) (tS B ob lb : Nat) (m : Int) (w : World) (D : List (DP V)) (F : Nat → Prop) : Prop :=
  B ≤ ob ∧ B ≤ lb ∧ ob ≠ lb ∧ (∃ ov, Bx w ob tS [ov] ∧ Own w B κ.tP κ.pc ov D.length (D.flatMap κ.ce) ∧ ∀ k, F k ↔ k = ob ∨ k = lb ∨ Bl ov k) ∧ Bx w lb 3 [.int .i64 m] ∧ (∀ x9 ∈ D.map pk, Own w B 5 1 x9.1 x9.2.length (x9.2.map u8v)) ∧ (D.map pk).Pairwise (fun a b => Dj (Bl a.1) (Bl b.1))
theorem AccR.lt (T : AccR κ tS B ob lb m w D F) : ∀ k, F k → B ≤ k ∧ k < w.heap.size := fun k hk => by
  obtain ⟨h1, h2, _, ⟨ov, hB, hO, hF⟩, hL, _⟩ := T
  rcases (hF k).1 hk with rfl | rfl | hk
  · exact ⟨h1, hB.lt⟩
  · exact ⟨h2, hL.lt⟩
  · exact hO.lt k hk
theorem AccR.keepG (T : AccR κ tS B ob lb m w D F) (E : Gr w w' H) (hd : Dj F H) (hn : NoK w H) : AccR κ tS B ob lb m w' D F := by
  obtain ⟨h1, h2, h3, ⟨ov, hB, hO, hF⟩, hL, hk, hp⟩ := T
  exact ⟨h1, h2, h3, ⟨ov, hB.keepG E (hd _ ((hF _).2 (.inl rfl))), hO.keepG E (fun k hk => hd k ((hF k).2 (.inr (.inr hk)))), hF⟩, hL.keepG E (hd _ ((hF _).2 (.inr (.inl rfl)))), fun x9 hx => (hk x9 hx).keepG E (hn.key (hk x9 hx |>.mono (Nat.zero_le _))), hp⟩
theorem AccR.kz (T : AccR κ tS B ob lb m w D F) (E : w.grownBy w' none) : AccR κ tS B ob lb m w' D F := T.keepG (Gr.of0 E NoB) (fun _ _ h => h) (NoK.no _)
variable {α : Type} {A : Nat → α → (Nat → Prop) → Prop} {ys9 : List α} {i : Nat} {a : α}
theorem Kids.get (K : Kids A P ys9 G) (hc : ys9[i]? = some a) : ∃ f, A (P.getD i default) a f ∧ ∀ k, f k → G k := by
  obtain ⟨f, G0, h1, _, _, h2, _⟩ := K.cutc hc
  exact ⟨f, h1, h2⟩
theorem pw_snoc {d : DP V} (h : (D.map pk).Pairwise (fun a b => Dj (Bl a.1) (Bl b.1))) (hd : ∀ a ∈ D.map pk, Dj (Bl a.1) (Bl d.1)) : ((D ++ [d]).map pk).Pairwise (fun a b => Dj (Bl a.1) (Bl b.1)) := by
  rw [List.map_append, List.pairwise_append]
  exact ⟨h, List.pairwise_singleton _ _, fun a ha b hb => by rw [show ([d] : List (DP V)).map pk = [pk d] from rfl, List.mem_singleton] at hb; subst hb; exact hd a ha⟩
theorem TreeR.later {h : Nat} {tr : Tr V h} (T : TreeR κ R w h p tr W) (E : Gr w w' (fun k => B ≤ k)) (hW : ∀ k, W k → k < B) (hR : ∀ k, R k → k < B) : TreeR κ R w' h p tr W :=
  T.keepR E (fun k hk hh => by have := hW k hk; omega) (fun k hk hh => by have := hR k hk; omega)
end
end Go.Gx
namespace Go.Bt
section
variable {V : Type} {h : Nat}
def geL (x : Ky) (l : List (Ky × V)) : List (Ky × V) := l.filter fun p => decide (x ≤ p.1)
theorem geL_app {x : Ky} {a b : List (Ky × V)} : geL x (a ++ b) = geL x a ++ geL x b := List.filter_append ..
theorem geL_none {x : Ky} {a : List (Ky × V)} (h : ∀ p ∈ a, p.1 < x) : geL x a = [] := by
  unfold geL; rw [List.filter_eq_nil_iff]; intro p hp; have := h p hp; simp only [decide_eq_true_eq]; grind
theorem geL_all {x : Ky} {a : List (Ky × V)} (h : ∀ p ∈ a, x ≤ p.1) : geL x a = a := by
  unfold geL; rw [List.filter_eq_self]; intro p hp; simpa using h p hp
theorem geL_leaf {x : Ky} {l : List (Ky × V)} (H : Sorted (l.map Prod.fst)) : geL x l = l.drop (pos (l.map Prod.fst) x) := by
  conv => lhs; rw [← List.take_append_drop (pos (l.map Prod.fst) x) l]
  have hl := pos_le (l.map Prod.fst) x
  rw [List.length_map] at hl
  rw [geL_app, geL_none, geL_all, List.nil_append]
  · intro p hp
    obtain ⟨q, hq, rfl⟩ := List.getElem_of_mem hp
    rw [List.length_drop] at hq
    rw [List.getElem_drop]
    have := pos_sorted H (x := x) (j := pos (l.map Prod.fst) x + q) (by simp; omega)
    simp only [List.getElem_map] at this
    grind
  · intro p hp
    obtain ⟨q, hq, rfl⟩ := List.getElem_of_mem hp
    rw [List.length_take] at hq
    rw [List.getElem_take]
    have := pos_sorted H (x := x) (j := q) (by simp; omega)
    simp only [List.getElem_map] at this
    grind
theorem geL_node {x : Ky} {ks : List Ky} {cs : List (Tr V h)} (N : Nd h ks cs) : geL x (cs.flatMap (toL h)) = (cs.drop (way ks x)).flatMap (fun c => geL x (toL h c)) := by
  have hl : way ks x < cs.length := by have := way_le ks x; have := N.1; omega
  conv => lhs; rw [← List.take_append_drop (way ks x) cs]
  rw [List.flatMap_append, geL_app, geL_none, List.nil_append]
  · generalize cs.drop (way ks x) = r
    induction r with
    | nil => rfl
    | cons c r ih => rw [List.flatMap_cons, geL_app, ih, List.flatMap_cons]
  · intro p hp
    obtain ⟨c, hc, hp⟩ := List.mem_flatMap.1 hp
    obtain ⟨q, hq, rfl⟩ := List.getElem_of_mem hc
    rw [List.length_take] at hq
    rw [List.getElem_take] at hp
    have := (N.2.2 q _ (List.getElem?_eq_getElem (by omega))).2 _ (dom_of_toL hp)
    exact lt_of_way (ks := ks) (by omega)
variable {α β : Type} {f : α → List β} {l : List α} {i j n : Nat} {c : α}
theorem scan_more (hc : l[i + j]? = some c) : ((l.drop i).take (j + 1)).flatMap f = ((l.drop i).take j).flatMap f ++ f c := by
  obtain ⟨hi, rfl⟩ := List.getElem?_eq_some_iff.1 hc
  have hj : j < (l.drop i).length := by rw [List.length_drop]; omega
  rw [← List.take_append_getElem hj, List.flatMap_append, List.getElem_drop]; simp
theorem geL_le {x : Ky} {l : List (Ky × V)} : (geL x l).length ≤ l.length := List.length_filter_le ..
theorem scan_room {x : Ky} {cs : List (Tr V h)} {i j : Nat} {c : Tr V h} (hc : cs[i + j]? = some c) : (((cs.drop i).take j).flatMap fun c => geL x (toL h c)).length + (toL h c).length ≤ (cs.flatMap (toL h)).length := by
  have h1 : ∀ l : List (Tr V h), (l.flatMap fun c => geL x (toL h c)).length ≤ (l.flatMap (toL h)).length := fun l => by
    induction l with
    | nil => exact Nat.le_refl _
    | cons a t ih => rw [List.flatMap_cons, List.flatMap_cons, List.length_append, List.length_append]; have := geL_le (x := x) (l := toL h a); omega
  obtain ⟨hl, rfl⟩ := List.getElem?_eq_some_iff.1 hc
  have e : cs = cs.take i ++ ((cs.drop i).take j ++ cs[i + j] :: cs.drop (i + j + 1)) := by
    rw [← List.drop_eq_getElem_cons hl, ← List.drop_drop, List.take_append_drop, List.take_append_drop]
  have h2 := h1 ((cs.drop i).take j)
  have e2 := congrArg (fun l => (l.flatMap (toL h)).length) e
  simp only [List.flatMap_append, List.flatMap_cons, List.length_append] at e2
  omega
theorem scan_le : ((l.take n).flatMap f).length ≤ (l.flatMap f).length := by
  conv => rhs; rw [← List.take_append_drop n l, List.flatMap_append, List.length_append]
  omega
theorem scan_cut (h : n ≤ ((l.take j).flatMap f).length) : (l.flatMap f).take n = ((l.take j).flatMap f).take n := by
  conv => lhs; rw [← List.take_append_drop j l, List.flatMap_append]
  rw [List.take_append_of_le_length h]
end
end Go.Bt

namespace Go.Proofs.Ytcpfdfejojghbaa
open Go.Gx Go.RowKit
attribute [local irreducible] wpList wpStill Code.wp Calls
open Go.Bt
theorem yieldI {l : List UInt8} {kv : Value} {x : Int} {D : List (DP (Int))} {m : Int} {ob lb B : Nat} {F : Nat → Prop} {w : World} (hA : AccR kI 48 B ob lb m w D F) (hB : B ≤ w.heap.size) (hk : RdC w 0 w.heap.size 1 kv l.length (l.map u8v)) (hkn : l.length ≤ 1000000000) (hD : D.length ≤ 1000000) :
    Ret Try.prog 50 #[(Value.agg #[kv, (Value.int .i64 x)]), ptr ob 0, ptr lb 0] w (fun v' w' => Gr w w' F ∧ v' = .bool (decide (((D.length + 1 : Nat) : Int) < m)) ∧ ∃ kv' F', AccR kI 48 B ob lb m w' (D ++ [(kv', l, x)]) F' ∧ NewF w.heap.size F F') := by
  obtain ⟨h1, h2, h3, ⟨ov, hb, hO, hF⟩, hL, hks, hpw⟩ := hA
  refine (scan1I hB hb hL h3 hO hks hk hkn hD).mono fun v' w' h => ?_
  obtain ⟨E, hv, ov', kv', hb', hO', hks', hL', hm, hfr⟩ := h
  refine ⟨E.mono fun k _ hk => (hF k).2 (hk.elim .inl fun q => .inr (.inr q)), hv, kv', _, ⟨h1, h2, h3, ⟨ov', hb', hO', fun k => Iff.rfl⟩, hL', hks', pw_snoc hpw fun a ha k h q => by have := ((hks a ha).lt k h).2; have := hfr k q; omega⟩, fun k hk => ?_⟩
  rcases hk with hk | hk | hk
  · exact .inl ((hF k).2 (.inl hk))
  · exact .inl ((hF k).2 (.inr (.inl hk)))
  · rcases hm with hm | hm
    · exact .inl ((hF k).2 (.inr (.inr (hm.symm.trans hk))))
    · exact .inr (hm k hk)
theorem scanLI {x : List UInt8} {xv pv : Value} {D0 D : List (DP (Int))} {lim ob lb B p : Nat} {F : Nat → Prop} {w : World} (hx : Bx w p 115 [pv, .slice none 0 0, .slice none 0 0]) (op : Own w 0 51 2 pv D0.length (D0.flatMap cI)) (ks : ∀ x9 ∈ D0.map pk, Own w 0 5 1 x9.1 x9.2.length (x9.2.map u8v)) (hs : Sorted (kys D0)) (hn : D0.length ≤ 1000) (hop : RdC w 0 B 2 pv D0.length (D0.flatMap cI)) (hks : ∀ x9 ∈ D0.map pk, RdC w 0 B 1 x9.1 x9.2.length (x9.2.map u8v)) (hkl : ∀ x9 ∈ D0.map pk, x9.2.length ≤ 1000000000) (hxr : RdC w 0 B 1 xv x.length (x.map u8v)) (hA : AccR kI 48 B ob lb (lim : Int) w D F) (hB : B ≤ w.heap.size) (hD : D.length < lim) (hlim : lim ≤ 9223372036854775807) (hDM : D.length + D0.length ≤ 100000) : Ret Try.prog 49 #[(ptr p 0), xv, (Value.func (.func 50) #[] #[(ptr ob 0), (ptr lb 0)])] w (fun v' w' => Gr w w' (fun k => B ≤ k) ∧ v' = .bool (decide (D.length + ((D0.drop (pos (kys D0) x)).map Prod.snd).length < lim)) ∧ ∃ D2 F2, AccR kI 48 B ob lb (lim : Int) w' (D ++ D2) F2 ∧ D2.map Prod.snd = ((D0.drop (pos (kys D0) x)).map Prod.snd).take (lim - D.length)) := by
 have hdl : (D0.drop (pos (kys D0) x)).length = D0.length - (pos (kys D0) x) := List.length_drop
 have hpl := pos_leP (D := D0) (x := x)
 have hb := Gr.refl w (fun k => B ≤ k)
 refine enter (N := 56) Try.func49 rfl rfl (by simp) fun a0 hN hd hA => ?_
 have s0 : a0.tmps.getD 0 undef = (ptr p 0) := hA 0 (by simp)
 have s1 : a0.tmps.getD 1 undef = xv := hA 1 (by simp)
 have s2 : a0.tmps.getD 2 undef = (Value.func (.func 50) #[] #[(ptr ob 0), (ptr lb 0)]) := hA 2 (by simp)
 clear hA
 refine seq_any fun K3 hK3 => one_reg (op_assign rfl ?_)
 refine reg_nil (hK3 _ _ (seq_any fun K4 hK4 => seq_any fun K5 hK5 => one_reg (op_move (ev_base hN rfl s0) (op_fn (vs := [(ptr p 0)]) ok81 ⟨(ev_hit hN rfl), trivial⟩ (Ret.flip (leafLI hx op)) ?_))))
 rintro _ _ ⟨rfl, rfl⟩
 refine reg_nil ?_
 refine hK5 _ _ (wp_cond_true (ev_hit hN rfl) (seq_any fun K6 hK6 => one_reg (op_move (ev_base hN rfl s0) (op_move (ev_base hN rfl s1) (op_fn (vs := [(ptr p 0), xv]) ok82 ⟨(ev_hit hN rfl), ⟨(ev_hit hN rfl), trivial⟩⟩ (findI hx op ks hs (by omega) (hxr.mono (Nat.zero_le _) (by omega))) ?_)))))
 rintro _ w7 ⟨E10, rfl⟩
 have E10 := grown_of_below E10
 have z_w7 := E10.size
 have hx := hx.keep0 E10
 have hop := hop.keep0 E10
 have hks := all9 hks fun _ h => h.keep0 E10
 have hxr := hxr.keep0 E10
 have hA := hA.kz E10
 have hb := hb.step0 E10
 refine op_move (ev_hit hN rfl) (op_extract (ev_hit hN rfl) rfl ?_)
 refine op_extract (ev_hit hN rfl) rfl ?_
 refine op_assign (ev_hit hN rfl) (op_assign (ev_hit hN rfl) (reg_nil (hK6 _ _ (seq_any fun K11 hK11 => seq_any fun K12 hK12 => ?_))))
 refine one_reg (op_move (ev_base hN rfl s0) (op_nil (ev_hit hN rfl) (op_field fld115_0 (ev_hit hN rfl) (op_load1 (v := pv) one48 (ev_hit hN rfl) (hx.cell rfl) (op_move (ev_hit hN rfl) (op_slice_rd (lo := ((pos (kys D0) x))) (hi := D0.length) slt48 (ev_hit hN rfl) hop (.inr ⟨_, _, rfl, (ev_hit hN rfl)⟩) (.inl ⟨rfl, rfl⟩) (by omega) (by omega) ?_))))))
 intro v13 hR14
 have hR14 : RdC w7 0 B 2 v13 ((D0.drop (pos (kys D0) x)).length) (((D0.drop (pos (kys D0) x))).flatMap cI) := by exact hR14.cast (by simp) (by rw [flat_drop cI_len, List.take_of_length_le (by rw [flat_len9 cI_len]; simp)])
 refine op_len_rd Try.underlying48 (ev_hit hN rfl) hR14 ?_
 refine op_move rfl (reg_nil (hK12 _ _ (wp_block ?_)))
 refine loop_m (fun mz_ az_ w' => ∃ (i : Nat) (D2 : List (DP (Int))) (FA : Nat → Prop), mz_ = (D0.drop (pos (kys D0) x)).length - i ∧ (az_.tmps.getD 0 undef = (ptr p 0)) ∧ (az_.tmps.getD 1 undef = xv) ∧ (az_.tmps.getD 2 undef = (Value.func (.func 50) #[] #[(ptr ob 0), (ptr lb 0)])) ∧ (az_.tmps.getD 26 undef = v13) ∧ (az_.tmps.getD 27 undef = (Value.int .i64 ((((D0.drop (pos (kys D0) x)).length) : Nat) : Int))) ∧ (az_.tmps.getD 28 undef = (Value.int .i64 ((i : Nat) : Int))) ∧ (i ≤ (D0.drop (pos (kys D0) x)).length) ∧ (D2.map Prod.snd = ((D0.drop (pos (kys D0) x)).map Prod.snd).take i) ∧ (D2.length = i) ∧ (D.length + i < lim) ∧ (Gr w w' (fun k => B ≤ k)) ∧ (w7.heap.size ≤ w'.heap.size) ∧ (RdC w' 0 B 2 pv D0.length (D0.flatMap cI)) ∧ (∀ x9 ∈ (D0.map pk), RdC w' 0 B 1 x9.1 x9.2.length (x9.2.map u8v)) ∧ (RdC w' 0 B 1 xv x.length (x.map u8v)) ∧ (RdC w' 0 B 2 v13 ((D0.drop (pos (kys D0) x)).length) (((D0.drop (pos (kys D0) x))).flatMap cI)) ∧ (AccR kI 48 B ob lb (lim : Int) w' (D ++ D2) FA)) _ hN hd ⟨0, [], F, rfl, (sl_base hN rfl s0), (sl_base hN rfl s1), (sl_base hN rfl s2), (sl_hit hN rfl), (sl_hit hN rfl), (sl_hit hN rfl), (Nat.zero_le _), rfl, rfl, (by omega), hb, (Nat.le_refl _), hop, hks, hxr, hR14, (by simpa using hA)⟩ ?_
 rintro _ a15 w15 hN15 hd15 ⟨i, D2, FA, rfl, s15_0, s15_1, s15_2, s15_26, s15_27, s15_28, hi, hD2, hDl, hlt, hb, zl_w15, hop, hks, hxr, hR14, hAi⟩
 have z_w15 := hb.size
 refine seq_any fun K16 hK16 => ?_
 refine one_reg (op_lss (ev_base hN15 rfl s15_28) (ev_base hN15 rfl s15_27) (fun c29 => ?_) (fun c29 => ?_))
 ·
  refine reg_nil ?_
  refine hK16 _ _ (seq_any fun K17 hK17 => wp_cond_true (ev_hit hN15 rfl) (wp_skip (hK17 _ _ (seq_any fun K18 hK18 => wp_block ?_))))
  refine seq_any fun K19 hK19 => one_reg (op_index_rd slt48 (ev_base hN15 rfl s15_26) hR14 (ev_base hN15 rfl s15_28) (by omega) (by omega) ?_)
  intro b20 o21 h0b20 h1b20 hc22
  refine op_loadA (cs := [((D0.drop (pos (kys D0) x)).getD i default).1, (Value.int .i64 ((D0.drop (pos (kys D0) x)).getD i default).2.2)]) agg51 rfl (ev_hit hN15 rfl) (fun j u hu => hc22 j u (by have := (List.getElem?_eq_some_iff.1 hu).1; simpa using this) ((el_pI (i := i) (by omega) (by first | omega | (simp only [List.length_drop, List.length_take]; omega))) j u hu)) ?_
  refine op_alloc (cs := [(Value.slice none 0 0), (Value.int .i64 0)]) zero51 rfl ?_
  intro w23 b24 lo_b24 hi_b24 hB30 E25
  have dj31 : ¬ FA b24 := fun hf => by have := (hAi.lt _ hf).2; omega
  have z_w23 := E25.size
  have hop := hop.keep0 E25
  have hks := all9 hks fun _ h => h.keep0 E25
  have hxr := hxr.keep0 E25
  have hR14 := hR14.keep0 E25
  have hAi := hAi.kz E25
  have hb := hb.step0 E25
  have hB30_old := hB30
  refine op_store (vs := [((D0.drop (pos (kys D0) x)).getD i default).1, (Value.int .i64 ((D0.drop (pos (kys D0) x)).getD i default).2.2)]) (cs' := [((D0.drop (pos (kys D0) x)).getD i default).1, (Value.int .i64 ((D0.drop (pos (kys D0) x)).getD i default).2.2)]) size51 (ev_hit hN15 rfl) (ev_hit hN15 rfl) rfl rfl (by simp only [List.all_cons, List.all_nil, Bool.true_and, Bool.and_true, (show RdC _ _ _ _ ((D0.drop (pos (kys D0) x)).getD i default).1 _ _ from hks (pk ((D0.drop (pos (kys D0) x)).getD i default)) (List.mem_map.2 ⟨((D0.drop (pos (kys D0) x)).getD i default), (List.mem_of_mem_drop (getD_mem (by first | omega | (simp only [List.length_drop, List.length_take]; omega)))), rfl⟩)).one]; try rfl) hB30 (Nat.le_of_ble_eq_true rfl) rfl ?_
  intro w32 hB30 E33
  have z_w32 := E33.size
  have hop := hop.keep E33 (fun k hk => .inr (by simp at hk; omega))
  have hks := all9 hks fun _ h => h.keep E33 (fun k hk => .inr (by simp at hk; omega))
  have hxr := hxr.keep E33 (fun k hk => .inr (by simp at hk; omega))
  have hR14 := hR14.keep E33 (fun k hk => .inr (by simp at hk; omega))
  have hAi := hAi.keepG (Gr.of E33) (Dj.one dj31) (NoK.ofBx hB30_old (by decide))
  have hb := hb.step1 E33 (by omega)
  refine reg_nil (hK19 _ _ (seq_any fun K35 hK35 => one_reg (op_move (ev_base hN15 rfl s15_2) (op_loadA (cs := [((D0.drop (pos (kys D0) x)).getD i default).1, (Value.int .i64 ((D0.drop (pos (kys D0) x)).getD i default).2.2)]) agg51 rfl (ev_hit hN15 rfl) (fun j u hu => by rw [Nat.zero_add]; exact hB30.cell hu) ?_))))
  refine op_fnv (fs := []) (vs := [(Value.agg #[((D0.drop (pos (kys D0) x)).getD i default).1, (Value.int .i64 ((D0.drop (pos (kys D0) x)).getD i default).2.2)])]) (cs := [(ptr ob 0), (ptr lb 0)]) (ev_hit hN15 rfl) ok50 ⟨(ev_hit hN15 rfl), trivial⟩ (yieldI (l := ((D0.drop (pos (kys D0) x)).getD i default).2.1) (x := ((D0.drop (pos (kys D0) x)).getD i default).2.2) hAi (by omega) (((hks _ (List.mem_map.2 ⟨((D0.drop (pos (kys D0) x)).getD i default), List.mem_of_mem_drop (getD_mem (by simp; omega)), rfl⟩))).mono (Nat.le_refl _) (by omega)) ((hkl _ (List.mem_map.2 ⟨((D0.drop (pos (kys D0) x)).getD i default), List.mem_of_mem_drop (getD_mem (by simp; omega)), rfl⟩))) (by simp; omega)) ?_
  rintro _ w37 ⟨E38, rfl, kv36, F2_36, hA36, hN36⟩
  have bd39 := hB30.lt
  have hAi_old := hAi
  have z_w37 := E38.size
  have hop := hop.keepG E38 (fun k hk => .inr (by have := hAi_old.lt k hk; omega))
  have hks := all9 hks fun _ h => h.keepG E38 (fun k hk => .inr (by have := hAi_old.lt k hk; omega))
  have hxr := hxr.keepG E38 (fun k hk => .inr (by have := hAi_old.lt k hk; omega))
  have hR14 := hR14.keepG E38 (fun k hk => .inr (by have := hAi_old.lt k hk; omega))
  have hb := hb.stepF E38 (fun k _ h => (hAi_old.lt k h).1)
  rcases Bool.eq_false_or_eq_true ((decide (((((D ++ D2)).length + 1 : Nat) : Int) < (lim : Int)))) with c34 | c34
  ·
   rw [c34]
   refine op_not (ev_hit hN15 rfl) ?_
   refine reg_nil (hK35 _ _ (wp_cond_false (ev_hit hN15 rfl) (wp_skip (hK18 _ _ (one_reg (op_add (ev_base hN15 rfl s15_28) rfl (add64 (by omega)) ?_))))))
   refine op_move (ev_hit hN15 rfl) (reg_nil ?_)
   -- round 29T 34T
   exact loop_next _ hN15 hd15 ⟨(i + 1), (D2 ++ [(kv36, ((D0.drop (pos (kys D0) x)).getD i default).2.1, ((D0.drop (pos (kys D0) x)).getD i default).2.2)]), F2_36, rfl, (sl_base hN15 rfl s15_0), (sl_base hN15 rfl s15_1), (sl_base hN15 rfl s15_2), (sl_base hN15 rfl s15_26), (sl_base hN15 rfl s15_27), (sl_hit hN15 rfl).trans (congrArg (Value.int .i64) (by omega)), (by omega), (by rw [List.map_append, hD2, take9 (d := default) (by simp; omega), getD_map9 (by omega)]; rfl), (by rw [List.length_append, hDl]; rfl), (by have h9 := of_decide_eq_true c34; simp only [List.length_append, hDl] at h9; omega), hb, (by omega), hop, hks, hxr, hR14, (by simpa using hA36)⟩ (by omega)
  ·
   rw [c34]
   refine op_not (ev_hit hN15 rfl) ?_
   refine reg_nil (hK35 _ _ ?_)
   refine wp_cond_true (ev_hit hN15 rfl) (seq_any fun K40 hK40 => one_reg (op_assign rfl (reg_nil (hK40 _ _ (wp_ret (blk_ret (then_ret (then_ret (blk_ret (then_ret (then_ret ( ?_))))))))))))
   refine ret1 rfl hd15 (ev_hit hN15 rfl) ⟨_, rfl, ?_⟩
   have h9 := of_decide_eq_false c34
   simp only [List.length_append, hDl] at h9
   exact ⟨hb, congrArg Value.bool (decide_eq_false (by rw [List.length_map]; omega)).symm, D2 ++ [(kv36, ((D0.drop (pos (kys D0) x)).getD i default).2.1, ((D0.drop (pos (kys D0) x)).getD i default).2.2)], F2_36, by simpa using hA36, by rw [show lim - D.length = i + 1 by omega, List.map_append, hD2, take9 (d := default) (by simp; omega), getD_map9 (by omega)]; rfl⟩
 ·
  refine reg_nil (hK16 _ _ (seq_any fun K41 hK41 => wp_cond_false (ev_hit hN15 rfl) (wp_exit (then_exit (then_exit (blk_hit ?_))))))
  refine hK11 _ _ (seq_any fun K42 hK42 => one_reg (op_assign rfl (reg_nil (hK42 _ _ (wp_ret (then_ret ( ?_)))))))
  refine ret1 rfl hd15 (ev_hit hN15 rfl) ⟨_, rfl, ?_⟩
  exact ⟨hb, congrArg Value.bool (decide_eq_true (by rw [List.length_map]; omega)).symm, D2, FA, hAi, by rw [hD2, List.take_of_length_le (by simp; omega), List.take_of_length_le (by simp; omega)]⟩
def ScanI (h : Nat) : Prop := ∀ ⦃x : List UInt8⦄ ⦃xv : Value⦄ ⦃p ob lb B lim : Nat⦄ ⦃t : Tr (Int) h⦄ ⦃R W F : Nat → Prop⦄ ⦃D : List (DP (Int))⦄ ⦃w : World⦄, TreeR kI R w h p t W → Ok h t → szT h t ≤ 6 → (∀ k, W k → k < B) → (∀ k, R k → k < B) → (∀ q ∈ toL h t, q.1.length ≤ 1000000000) → RdC w 0 B 1 xv x.length (x.map u8v) → AccR kI 48 B ob lb (lim : Int) w D F → B ≤ w.heap.size → D.length < lim → lim ≤ 9223372036854775807 → D.length + (toL h t).length ≤ 100000 →
  Ret Try.prog 49 #[ptr p 0, xv, .func (.func 50) #[] #[ptr ob 0, ptr lb 0]] w (fun v' w' => Gr w w' (fun k => B ≤ k) ∧ v' = .bool (decide (D.length + (geL x (toL h t)).length < lim)) ∧ ∃ D2 F2, AccR kI 48 B ob lb (lim : Int) w' (D ++ D2) F2 ∧ D2.map Prod.snd = (geL x (toL h t)).take (lim - D.length))
theorem scan0I : ScanI 0 := by
  intro x xv p ob lb B lim t R W F D w T hO h6 hW hR hkl hxr hA hB hD hlim hDM
  obtain ⟨pv, D0, hL, e⟩ := T
  have e' : (D0.map Prod.snd : List (Ky × (Int))) = t := e
  subst e'
  have h6' : D0.length ≤ 6 := by have h9 : (D0.map Prod.snd).length ≤ 6 := h6; simpa using h9
  have hs : Sorted (kys D0) := hO
  have hg : geL x (toL 0 ((D0.map Prod.snd : List (Ky × (Int))) : Tr (Int) 0)) = (D0.drop (pos (kys D0) x)).map Prod.snd := (geL_leaf (show Sorted ((D0.map Prod.snd).map Prod.fst) from hs)).trans (by rw [List.map_drop]; rfl)
  rw [hg]
  exact scanLI hL.bx hL.op hL.ks hs (by omega) ((hL.op.rd fun k hk => hW k (hL.wv k hk)).mono (Nat.zero_le _) (Nat.le_refl _)) (fun x9 hx9 => ((hL.ks x9 hx9).rd fun k hk => hR k (hL.kr x9 hx9 k hk))) (fun x9 hx9 => by
    obtain ⟨d, hd, rfl⟩ := List.mem_map.1 hx9
    exact hkl d.2 (List.mem_map.2 ⟨d, hd, rfl⟩)) hxr hA hB hD hlim (by have h9 : D.length + (D0.map Prod.snd).length ≤ 100000 := hDM; simpa using h9)
theorem scanNI {h : Nat} {x : List UInt8} {xv kv cv : Value} {p ob lb B lim : Nat} {K : List DK} {P : List Nat} {cs : List (Tr (Int) h)} {R W G F : Nat → Prop} {D : List (DP (Int))} {w : World} (IH : ScanI h) (hNd : NodeR kI R w p kv cv K P G W) (hKs : KidsR kI R w h P cs G) (hO : Nd h (K.map Prod.snd) cs) (hz : ∀ c ∈ cs, okSz h c) (hn : K.length ≤ 6) (hW : ∀ k, W k → k < B) (hR : ∀ k, R k → k < B) (hkl : ∀ q ∈ cs.flatMap (toL h), q.1.length ≤ 1000000000) (hxr : RdC w 0 B 1 xv x.length (x.map u8v)) (hA : AccR kI 48 B ob lb (lim : Int) w D F) (hB : B ≤ w.heap.size) (hD : D.length < lim) (hlim : lim ≤ 9223372036854775807) (hDM : D.length + (cs.flatMap (toL h)).length ≤ 100000) : Ret Try.prog 49 #[(ptr p 0), xv, (Value.func (.func 50) #[] #[(ptr ob 0), (ptr lb 0)])] w (fun v' w' => Gr w w' (fun k => B ≤ k) ∧ v' = .bool (decide (D.length + ((cs.drop (way (K.map Prod.snd) x)).flatMap fun c => geL x (toL h c)).length < lim)) ∧ ∃ D2 F2, AccR kI 48 B ob lb (lim : Int) w' (D ++ D2) F2 ∧ D2.map Prod.snd = ((cs.drop (way (K.map Prod.snd) x)).flatMap fun c => geL x (toL h c)).take (lim - D.length)) := by
 have hx : Bx w p 115 [.slice none 0 0, kv, cv] := hNd.bx
 have ok := hNd.ok
 have oc : Own w 0 69 1 cv P.length (P.flatMap cN) := hNd.oc
 have ks := hNd.ks
 have hs := hO.2.1
 have hPc : P.length = cs.length := hKs.len
 have hcl : cs.length = K.length + 1 := hO.1.trans (by simp)
 have hPl : P.length = K.length + 1 := hPc.trans hcl
 have hwl : (way (K.map Prod.snd) x) ≤ K.length := by have := way_le (K.map Prod.snd) x; simpa using this
 have hdl : (P.drop (way (K.map Prod.snd) x)).length = P.length - (way (K.map Prod.snd) x) := List.length_drop
 have hoc : RdC w 0 B 1 cv P.length (P.flatMap cN) := (hNd.oc.rd fun k hk => hW k (hNd.wc k hk)).mono (Nat.zero_le _) (Nat.le_refl _)
 have hb := Gr.refl w (fun k => B ≤ k)
 refine enter (N := 56) Try.func49 rfl rfl (by simp) fun a0 hN hd hA => ?_
 have s0 : a0.tmps.getD 0 undef = (ptr p 0) := hA 0 (by simp)
 have s1 : a0.tmps.getD 1 undef = xv := hA 1 (by simp)
 have s2 : a0.tmps.getD 2 undef = (Value.func (.func 50) #[] #[(ptr ob 0), (ptr lb 0)]) := hA 2 (by simp)
 clear hA
 refine seq_any fun K3 hK3 => one_reg (op_assign rfl ?_)
 refine reg_nil (hK3 _ _ (seq_any fun K4 hK4 => seq_any fun K5 hK5 => one_reg (op_move (ev_base hN rfl s0) (op_fn (vs := [(ptr p 0)]) ok81 ⟨(ev_hit hN rfl), trivial⟩ (Ret.flip (leafNI hx ok oc (by omega) (by omega))) ?_))))
 rintro _ _ ⟨rfl, rfl⟩
 refine reg_nil (hK5 _ _ (wp_cond_false (ev_hit hN rfl) (wp_skip (hK4 _ _ (seq_any fun K6 hK6 => seq_any fun K7 hK7 => ?_)))))
 refine reg_env (φ := phiV [(fun uz => uz = (ptr p 0)), (fun uz => uz = (ptr p 0)), (fun uz => uz = (ptr p 2)), (fun uz => uz = cv), (fun uz => uz = (ptr p 0)), (fun uz => uz = xv), (fun _ => True), (fun _ => True), (fun _ => True), (fun uz => uz = (Value.int .i64 0))]) (G := fun w' => Bx w' p 115 [(Value.slice none 0 0), kv, cv]) [6, 7, 8] mixed (by kernel_rfl) (by kernel_rfl) (by kernel_rfl) (by kernel_rfl) hN (fun w1 w2 E h => h.keep0 E) hx (ObEs.cons ?_ (ObEs.cons ?_ (ObEs.cons ?_ (ObEs.cons ?_ (ObEs.cons ?_ (ObEs.cons ?_ (ObEs.pass rfl (ObEs.pass rfl (ObEs.pass rfl (ObEs.cons ?_ (ObEs.nil))))))))))) (by simp only [putsL_defers]) ?_
 ·
  intro eA aA wA hNA hGA hbsA hdpA
  have qA_0 := (hbsA 0 rfl).trans (sl_base hN rfl s0)
  refine op_move (ev_base hNA rfl qA_0) ?_
  exact obE_end rfl rfl rfl
 ·
  intro eA aA wA hNA hGA hbsA hdpA
  have qA_37 : Sl aA 37 (ptr p 0) := (hdpA 0 _ 37 (by kernel_rfl) rfl rfl).2 rfl
  refine op_nil (ev_base hNA rfl qA_37) ?_
  exact obE_end rfl rfl rfl
 ·
  intro eA aA wA hNA hGA hbsA hdpA
  have qA_38 : Sl aA 38 (ptr p 0) := (hdpA 1 _ 38 (by kernel_rfl) rfl rfl).2 rfl
  refine op_field fld115_2 (ev_base hNA rfl qA_38) ?_
  exact obE_end rfl rfl rfl
 ·
  intro eA aA wA hNA hGA hbsA hdpA
  have qA_39 : Sl aA 39 (ptr p 2) := (hdpA 2 _ 39 (by kernel_rfl) rfl rfl).2 rfl
  refine op_load1 (v := cv) one113 (ev_base hNA rfl qA_39) (hGA.cell rfl) ?_
  exact obE_end rfl rfl rfl
 ·
  intro eA aA wA hNA hGA hbsA hdpA
  have qA_0 := (hbsA 0 rfl).trans (sl_base hN rfl s0)
  refine op_move (ev_base hNA rfl qA_0) ?_
  exact obE_end rfl rfl rfl
 ·
  intro eA aA wA hNA hGA hbsA hdpA
  have qA_1 := (hbsA 1 rfl).trans (sl_base hN rfl s1)
  refine op_move (ev_base hNA rfl qA_1) ?_
  exact obE_end rfl rfl rfl
 ·
  intro eA aA wA hNA hGA hbsA hdpA
  refine op_move rfl ?_
  exact obE_end rfl rfl rfl
 ·
  intro w10 E10 _ a10 hN10 hbs10 hdp10 o_ ho_; obtain rfl := Option.some.inj ho_
  have z_w10 := E10.size
  have hx := hx.keep0 E10
  have ok := ok.keep0 E10
  have oc := oc.keep0 E10
  have ks := all9 ks fun _ h => h.keep0 E10
  have hoc := hoc.keep0 E10
  have hxr := hxr.keep0 E10
  have hA := hA.kz E10
  have hb := hb.step0 E10
  have q10_41 : Sl a10 41 (ptr p 0) := (hdp10 4 _ 41 (by kernel_rfl) rfl rfl).2 rfl
  have q10_42 : Sl a10 42 xv := (hdp10 5 _ 42 (by kernel_rfl) rfl rfl).2 rfl
  refine op_fn (vs := [(ptr p 0), xv]) ok84 ⟨(ev_base hN10 rfl q10_41), ⟨(ev_base hN10 rfl q10_42), trivial⟩⟩ (wayI hx ok oc ks hs (by omega) (hxr.mono (Nat.zero_le _) (by omega))) ?_
  rintro _ w11 ⟨E12, rfl⟩
  have E12 := grown_of_below E12
  have z_w11 := E12.size
  have hx := hx.keep0 E12
  have hoc := hoc.keep0 E12
  have hxr := hxr.keep0 E12
  have hA := hA.kz E12
  have hb := hb.step0 E12
  refine ke_end rfl (by decide) rfl hx ?_
  intro w13 E13 _ a13 hN13 hbs13 hdp13 o_ ho_; obtain rfl := Option.some.inj ho_
  have z_w13 := E13.size
  have hx := hx.keep0 E13
  have hoc := hoc.keep0 E13
  have hxr := hxr.keep0 E13
  have hA := hA.kz E13
  have hb := hb.step0 E13
  have q13_40 : Sl a13 40 cv := (hdp13 3 _ 40 (by kernel_rfl) rfl rfl).2 rfl
  have q13_43 : Sl a13 43 (Value.int .i64 (((way (K.map Prod.snd) x) : Nat) : Int)) := (Option.some.inj ((hdp13 6 _ 43 (by kernel_rfl) rfl rfl).1 0 rfl)).symm
  refine op_slice_rd (lo := ((way (K.map Prod.snd) x))) (hi := P.length) slt113 (ev_base hN13 rfl q13_40) hoc (.inr ⟨_, _, rfl, (ev_base hN13 rfl q13_43)⟩) (.inl ⟨rfl, rfl⟩) (by omega) (by omega) ?_
  intro v14 hR15
  have hR15 : RdC w13 0 B 1 v14 ((P.drop (way (K.map Prod.snd) x)).length) (((P.drop (way (K.map Prod.snd) x))).flatMap cN) := by exact hR15.cast (by simp) (by rw [flat_drop cN_len, List.take_of_length_le (by rw [flat_len9 cN_len]; simp)])
  refine ke_end rfl (by decide) rfl hx ?_
  intro w16 E16 _ a16 hN16 hbs16 hdp16 o_ ho_; obtain rfl := Option.some.inj ho_
  have z_w16 := E16.size
  have hx := hx.keep0 E16
  have hoc := hoc.keep0 E16
  have hxr := hxr.keep0 E16
  have hA := hA.kz E16
  have hR15 := hR15.keep0 E16
  have hb := hb.step0 E16
  have q16_44 : Sl a16 44 v14 := (Option.some.inj ((hdp16 7 _ 44 (by kernel_rfl) rfl rfl).1 1 rfl)).symm
  refine op_len_rd Try.underlying113 (ev_base hN16 rfl q16_44) hR15 ?_
  refine ke_end rfl (by decide) rfl hx ?_
  intro w17 E17 a17 hN17 hd17 hbs17 hph17
  have hd17 := hd17.trans ((by simp only [putsL_defers] : _ = _).trans hd)
  have z_w17 := E17.size
  have hoc := hoc.keep0 E17
  have hxr := hxr.keep0 E17
  have hA := hA.kz E17
  have hR15 := hR15.keep0 E17
  have hb := hb.step0 E17
  have s17_1 := (hbs17 1 rfl).trans (sl_base hN rfl s1)
  have s17_2 := (hbs17 2 rfl).trans (sl_base hN rfl s2)
  have s17_44 : Sl a17 44 v14 := (Option.some.inj ((hph17 7 _ 44 rfl rfl).1 1 rfl)).symm
  have s17_45 : Sl a17 45 (Value.int .i64 ((((P.drop (way (K.map Prod.snd) x)).length) : Nat) : Int)) := (Option.some.inj ((hph17 8 _ 45 rfl rfl).1 2 rfl)).symm
  have s17_46 : Sl a17 46 (Value.int .i64 0) := (hph17 9 _ 46 rfl rfl).2 rfl
  refine hK7 _ _ (wp_block ?_)
  refine loop_m (fun mz_ az_ w' => ∃ (j : Nat) (D2 : List (DP (Int))) (FA : Nat → Prop), mz_ = (P.drop (way (K.map Prod.snd) x)).length - j ∧ (az_.tmps.getD 1 undef = xv) ∧ (az_.tmps.getD 2 undef = (Value.func (.func 50) #[] #[(ptr ob 0), (ptr lb 0)])) ∧ (az_.tmps.getD 44 undef = v14) ∧ (az_.tmps.getD 45 undef = (Value.int .i64 ((((P.drop (way (K.map Prod.snd) x)).length) : Nat) : Int))) ∧ (az_.tmps.getD 46 undef = (Value.int .i64 ((j : Nat) : Int))) ∧ (j ≤ (P.drop (way (K.map Prod.snd) x)).length) ∧ (D2.map Prod.snd = (((cs.drop (way (K.map Prod.snd) x)).take j).flatMap fun c => geL x (toL h c))) ∧ (D.length + (((cs.drop (way (K.map Prod.snd) x)).take j).flatMap fun c => geL x (toL h c)).length < lim) ∧ (Gr w w' (fun k => B ≤ k)) ∧ (w17.heap.size ≤ w'.heap.size) ∧ (RdC w' 0 B 1 cv P.length (P.flatMap cN)) ∧ (RdC w' 0 B 1 xv x.length (x.map u8v)) ∧ (RdC w' 0 B 1 v14 ((P.drop (way (K.map Prod.snd) x)).length) (((P.drop (way (K.map Prod.snd) x))).flatMap cN)) ∧ (AccR kI 48 B ob lb (lim : Int) w' (D ++ D2) FA)) _ hN17 hd17 ⟨0, [], F, rfl, (sl_base hN17 rfl s17_1), (sl_base hN17 rfl s17_2), (sl_base hN17 rfl s17_44), (sl_base hN17 rfl s17_45), (sl_base hN17 rfl s17_46), (Nat.zero_le _), rfl, (by simpa using hD), hb, (Nat.le_refl _), hoc, hxr, hR15, (by simpa using hA)⟩ ?_
  rintro _ a18 w18 hN18 hd18 ⟨j, D2, FA, rfl, s18_1, s18_2, s18_44, s18_45, s18_46, hj, hD2, hlt, hb, zl_w18, hoc, hxr, hR15, hAj⟩
  have z_w18 := hb.size
  refine seq_any fun K19 hK19 => ?_
  refine one_reg (op_lss (ev_base hN18 rfl s18_46) (ev_base hN18 rfl s18_45) (fun c47 => ?_) (fun c47 => ?_))
  ·
   refine reg_nil ?_
   refine hK19 _ _ (seq_any fun K20 hK20 => wp_cond_true (ev_hit hN18 rfl) (wp_skip (hK20 _ _ (seq_any fun K21 hK21 => wp_block ?_))))
   refine seq_any fun K22 hK22 => one_reg (op_index_rd slt113 (ev_base hN18 rfl s18_44) hR15 (ev_base hN18 rfl s18_46) (by omega) (by omega) ?_)
   intro b23 o24 h0b23 h1b23 hc25
   refine op_load1 (v := (ptr ((P.drop (way (K.map Prod.snd) x)).getD j default) 0)) one69 (ev_hit hN18 rfl) (by have := hc25 0 (ptr ((P.drop (way (K.map Prod.snd) x)).getD j default) 0) (by decide) (el_pn (i := j) (by omega) (by first | omega | (simp only [List.length_drop, List.length_take]; omega))); simpa using this) (op_assign (ev_hit hN18 rfl) ?_)
   refine reg_nil (hK22 _ _ (seq_any fun K26 hK26 => one_reg (op_move (ev_hit hN18 rfl) (op_move (ev_base hN18 rfl s18_1) (op_move (ev_base hN18 rfl s18_2) ?_)))))
   have hl2 : D2.length = (((cs.drop (way (K.map Prod.snd) x)).take j).flatMap fun c => geL x (toL h c)).length := by have := congrArg List.length hD2; simpa using this
   obtain ⟨c, hc, hcO, _⟩ := hO.at (i := (way (K.map Prod.snd) x) + j) (by simp; omega)
   obtain ⟨f, hf, hfG⟩ := Kids.get hKs hc
   have hTn : TreeR kI R w18 h (P.getD ((way (K.map Prod.snd) x) + j) default) c f := TreeR.later hf hb (fun k hk => hW k (hNd.wg k (hfG k hk))) hR
   have hpe : (P.drop (way (K.map Prod.snd) x)).getD j default = P.getD ((way (K.map Prod.snd) x) + j) default := by simp [List.getD_eq_getElem?_getD]
   rw [← hpe] at hTn
   have hmj : (((cs.drop (way (K.map Prod.snd) x)).take (j + 1)).flatMap fun c => geL x (toL h c)) = (((cs.drop (way (K.map Prod.snd) x)).take j).flatMap fun c => geL x (toL h c)) ++ geL x (toL h c) := scan_more hc
   refine op_fn (vs := [(ptr ((P.drop (way (K.map Prod.snd) x)).getD j default) 0), xv, (Value.func (.func 50) #[] #[(ptr ob 0), (ptr lb 0)])]) ok49 ⟨(ev_hit hN18 rfl), ⟨(ev_hit hN18 rfl), ⟨(ev_hit hN18 rfl), trivial⟩⟩⟩ (IH hTn hcO (by have := (hz c (List.mem_of_getElem? hc)).2; omega) (fun k hk => hW k (hNd.wg k (hfG k hk))) hR (fun q hq => hkl q (List.mem_flatMap.2 ⟨c, List.mem_of_getElem? hc, hq⟩)) hxr hAj (by omega) (by rw [List.length_append]; omega) hlim (by have h9 := scan_room (x := x) hc; rw [List.length_append]; omega)) ?_
   rintro _ w28 ⟨E29, rfl, E2_27, F2_27, hA27, hE27⟩
   have z_w28 := E29.size
   have hoc := hoc.keepG E29 (fun k hk => .inr hk)
   have hxr := hxr.keepG E29 (fun k hk => .inr hk)
   have hR15 := hR15.keepG E29 (fun k hk => .inr hk)
   have hb := hb.go E29 (fun k _ h => h)
   rcases Bool.eq_false_or_eq_true ((decide (((D ++ D2)).length + (geL x (toL h c)).length < lim))) with c53 | c53
   ·
    rw [c53]
    refine op_not (ev_hit hN18 rfl) ?_
    refine reg_nil (hK26 _ _ (wp_cond_false (ev_hit hN18 rfl) (wp_skip (hK21 _ _ (one_reg (op_add (ev_base hN18 rfl s18_46) rfl (add64 (by omega)) ?_))))))
    refine op_move (ev_hit hN18 rfl) (reg_nil ?_)
    -- round 47T 53T
    exact loop_next _ hN18 hd18 ⟨(j + 1), (D2 ++ E2_27), F2_27, rfl, (sl_base hN18 rfl s18_1), (sl_base hN18 rfl s18_2), (sl_base hN18 rfl s18_44), (sl_base hN18 rfl s18_45), (sl_hit hN18 rfl).trans (congrArg (Value.int .i64) (by omega)), (by omega), (by rw [hmj, List.map_append, hD2, hE27, List.take_of_length_le (l := geL x (toL h c)) (by have h9 := of_decide_eq_true c53; rw [List.length_append] at h9 ⊢; omega)]), (by have h9 := of_decide_eq_true c53; rw [hmj]; rw [List.length_append] at h9 ⊢; omega), hb, (by omega), hoc, hxr, hR15, (by simpa using hA27)⟩ (by omega)
   ·
    rw [c53]
    refine op_not (ev_hit hN18 rfl) ?_
    refine reg_nil (hK26 _ _ ?_)
    refine wp_cond_true (ev_hit hN18 rfl) (seq_any fun K30 hK30 => one_reg (op_assign rfl (reg_nil (hK30 _ _ (wp_ret (blk_ret (then_ret (then_ret (blk_ret (then_ret ( ?_)))))))))))
    refine ret1 rfl hd18 (ev_hit hN18 rfl) ⟨_, rfl, ?_⟩
    have h9 := of_decide_eq_false c53
    rw [List.length_append] at h9
    have hle : (((cs.drop (way (K.map Prod.snd) x)).take (j + 1)).flatMap fun c => geL x (toL h c)).length ≤ ((cs.drop (way (K.map Prod.snd) x)).flatMap fun c => geL x (toL h c)).length := scan_le
    exact ⟨hb, congrArg Value.bool (decide_eq_false (by rw [hmj, List.length_append] at hle; omega)).symm, D2 ++ E2_27, F2_27, by simpa using hA27, by rw [scan_cut (j := j + 1) (by rw [hmj, List.length_append]; omega), hmj, List.map_append, hD2, hE27, List.take_append, List.take_of_length_le (l := (((cs.drop (way (K.map Prod.snd) x)).take j).flatMap fun c => geL x (toL h c))) (by omega), List.length_append, hl2, Nat.sub_add_eq]⟩
  ·
   refine reg_nil (hK19 _ _ (seq_any fun K31 hK31 => wp_cond_false (ev_hit hN18 rfl) (wp_exit (then_exit (then_exit (blk_hit ?_))))))
   refine hK6 _ _ (seq_any fun K32 hK32 => one_reg (op_assign rfl (reg_nil (hK32 _ _ (wp_ret ?_)))))
   refine ret1 rfl hd18 (ev_hit hN18 rfl) ⟨_, rfl, ?_⟩
   have hall : (((cs.drop (way (K.map Prod.snd) x)).take j).flatMap fun c => geL x (toL h c)) = ((cs.drop (way (K.map Prod.snd) x)).flatMap fun c => geL x (toL h c)) := by rw [List.take_of_length_le (by simp; simp at hj; omega)]
   rw [hall] at hD2 hlt
   exact ⟨hb, congrArg Value.bool (decide_eq_true hlt).symm, D2, FA, hAj, by rw [hD2, List.take_of_length_le (by omega)]⟩
theorem scanAllI : ∀ h, ScanI h
  | 0 => scan0I
  | h + 1 => by
    intro x xv p ob lb B lim t R W F D w T hO h6 hW hR hkl hxr hA hB hD hlim hDM
    obtain ⟨kv, cv, K, P, G, hN, hKs, e⟩ := T
    obtain ⟨kl, cs⟩ := t
    have e' : K.map Prod.snd = kl := e
    subst e'
    obtain ⟨h1, h2⟩ := ok_node.1 hO
    have hg : geL x (toL (h + 1) ((K.map Prod.snd, cs) : Tr (Int) (h + 1))) = (cs.drop (way (K.map Prod.snd) x)).flatMap (fun c => geL x (toL h c)) := geL_node h1
    rw [hg]
    exact scanNI (scanAllI h) hN hKs h1 h2 (by have h9 : (K.map Prod.snd).length ≤ 6 := h6; simpa using h9) hW hR hkl hxr hA hB hD hlim hDM
theorem scanT0I {p : Nat} {m : Int} {xv : Value} {w : World} (hx : Bx w p 71 [.pointer none]) : Ret Try.prog 24 #[(ptr p 0), xv, (Value.int .i64 m)] w (fun v' w' => Below w.heap.size w w' ∧ v' = .slice none 0 0) := by
 have hb := Below.refl w.heap.size w
 refine enter (N := 29) Try.func24 rfl rfl (by simp) fun a0 hN hd hA => ?_
 have s0 : a0.tmps.getD 0 undef = (ptr p 0) := hA 0 (by simp)
 have s2 : a0.tmps.getD 2 undef = (Value.int .i64 m) := hA 2 (by simp)
 clear hA
 refine seq_any fun K3 hK3 => one_reg (op_box (cs := [(Value.int .i64 m)]) (ev_base hN rfl s2) rfl ?_)
 intro w4 b5 lo_b5 hi_b5 hB7 E6
 have z_w4 := E6.size
 have hx := hx.keep0 E6
 have hb := below_step0 hb E6 hb.size
 refine op_assign rfl ?_
 refine reg_nil (hK3 _ _ (seq_any fun K8 hK8 => seq_any fun K9 hK9 => one_reg (op_move (ev_base hN rfl s0) (op_peq_some ptrt45 (ev_hit hN rfl) rfl ?_))))
 refine op_move (ev_hit hN rfl) (g_true (j := 2) (dj := 10) (b := false) rfl rfl rfl (ev_hit hN rfl) (op_move (ev_base hN rfl s0) (g_true (j := 2) (dj := 10) (b := false) rfl rfl rfl (ev_hit hN rfl) ?_)))
 refine op_nil (ev_hit hN rfl) (g_true (j := 2) (dj := 10) (b := false) rfl rfl rfl (ev_hit hN rfl) (op_field fld71_0 (ev_hit hN rfl) (g_true (j := 2) (dj := 10) (b := false) rfl rfl rfl (ev_hit hN rfl) (op_load1 (v := (Value.pointer none)) one69 (ev_hit hN rfl) (hx.cell rfl) (g_true (j := 2) (dj := 10) (b := false) rfl rfl rfl (ev_hit hN rfl) (op_peq_none ptrt69 (ev_hit hN rfl) rfl ?_))))))
 refine op_pick_f (ev_hit hN rfl) (ev_hit hN rfl) ?_
 refine op_move (ev_hit hN rfl) (g_false (j := 9) (dj := 17) (b := false) rfl rfl rfl (ev_hit hN rfl) rfl rfl (g_false (j := 9) (dj := 17) (b := false) rfl rfl rfl (ev_hit hN rfl) rfl rfl (op_pick_t (ev_hit hN rfl) rfl ?_)))
 refine reg_nil (hK9 _ _ ?_)
 refine wp_cond_true (ev_hit hN rfl) (seq_any fun K10 hK10 => one_reg (op_assign rfl (reg_nil (hK10 _ _ (wp_ret (then_ret ( ?_)))))))
 refine ret1 rfl hd (ev_hit hN rfl) ⟨_, rfl, ?_⟩
 exact ⟨hb, rfl⟩

theorem scanT1I {x : List UInt8} {xv : Value} {p q h lim : Nat} {t : Tr (Int) h} {R W : Nat → Prop} {w : World} (hx : Bx w p 71 [ptr q 0]) (hT : TreeR kI R w h q t W) (hO : Ok h t) (h6 : szT h t ≤ 6) (hR : ∀ k, R k → k < w.heap.size) (hkl : ∀ q ∈ toL h t, q.1.length ≤ 1000000000) (hxr : RdC w 0 w.heap.size 1 xv x.length (x.map u8v)) (h1 : 1 ≤ lim) (hlim : lim ≤ 9223372036854775807) (hDM : (toL h t).length ≤ 100000) : Ret Try.prog 24 #[(ptr p 0), xv, (Value.int .i64 ((lim : Nat) : Int))] w (fun v' w' => Below w.heap.size w w' ∧ ∃ D2 : List (DP (Int)), Own w' w.heap.size 51 2 v' D2.length (D2.flatMap cI) ∧ (∀ x9 ∈ D2.map pk, Own w' w.heap.size 5 1 x9.1 x9.2.length (x9.2.map u8v)) ∧ D2.map Prod.snd = (geL x (toL h t)).take lim ∧ (D2.map pk).Pairwise (fun a b => Dj (Bl a.1) (Bl b.1))) := by
 have hb := Below.refl w.heap.size w
 refine enter (N := 29) Try.func24 rfl rfl (by simp) fun a0 hN hd hA => ?_
 have s0 : a0.tmps.getD 0 undef = (ptr p 0) := hA 0 (by simp)
 have s1 : a0.tmps.getD 1 undef = xv := hA 1 (by simp)
 have s2 : a0.tmps.getD 2 undef = (Value.int .i64 ((lim : Nat) : Int)) := hA 2 (by simp)
 clear hA
 refine seq_any fun K4 hK4 => one_reg (op_box (cs := [(Value.int .i64 ((lim : Nat) : Int))]) (ev_base hN rfl s2) rfl ?_)
 intro w5 b7 lo_b7 hi_b7 hB11 E10
 have z_w5 := E10.size
 have hx := hx.keep0 E10
 have hxr := hxr.keep0 E10
 have hb := below_step0 hb E10 hb.size
 refine op_assign rfl ?_
 refine reg_nil (hK4 _ _ (seq_any fun K12 hK12 => seq_any fun K13 hK13 => one_reg (op_move (ev_base hN rfl s0) (op_peq_some ptrt45 (ev_hit hN rfl) rfl ?_))))
 refine op_move (ev_hit hN rfl) (g_true (j := 2) (dj := 10) (b := false) rfl rfl rfl (ev_hit hN rfl) (op_move (ev_base hN rfl s0) (g_true (j := 2) (dj := 10) (b := false) rfl rfl rfl (ev_hit hN rfl) ?_)))
 refine op_nil (ev_hit hN rfl) (g_true (j := 2) (dj := 10) (b := false) rfl rfl rfl (ev_hit hN rfl) (op_field fld71_0 (ev_hit hN rfl) (g_true (j := 2) (dj := 10) (b := false) rfl rfl rfl (ev_hit hN rfl) (op_load1 (v := (ptr q 0)) one69 (ev_hit hN rfl) (hx.cell rfl) (g_true (j := 2) (dj := 10) (b := false) rfl rfl rfl (ev_hit hN rfl) (op_peq_some ptrt69 (ev_hit hN rfl) rfl ?_))))))
 refine op_pick_f (ev_hit hN rfl) (ev_hit hN rfl) ?_
 refine op_move (ev_hit hN rfl) (g_true (j := 9) (dj := 17) (b := false) rfl rfl rfl (ev_hit hN rfl) (op_load1 (v := (Value.int .i64 ((lim : Nat) : Int))) one3 (ev_hit hN rfl) (hB11.cell rfl) (g_true (j := 9) (dj := 17) (b := false) rfl rfl rfl (ev_hit hN rfl) (op_lss (ev_hit hN rfl) rfl (fun c19 => ?_) (fun c19 => ?_)))))
 ·
  exfalso; omega
 ·
  refine op_pick_f (ev_hit hN rfl) (ev_hit hN rfl) ?_
  refine reg_nil ?_
  refine hK13 _ _ (wp_cond_false (ev_hit hN rfl) (wp_skip (hK12 _ _ (seq_any fun K14 hK14 => one_reg (op_alloc (cs := [(Value.slice none 0 0)]) zero48 rfl ?_)))))
  intro w15 b16 lo_b16 hi_b16 hB18 E17
  have z_w15 := E17.size
  have hx := hx.keep0 E17
  have hxr := hxr.keep0 E17
  have hB11 := hB11.keep0 E17
  have hb := below_step0 hb E17 hb.size
  refine reg_nil (hK14 _ _ (seq_any fun K20 hK20 => ?_))
  refine one_reg (op_move (ev_base hN rfl s0) (op_nil (ev_hit hN rfl) (op_field fld71_0 (ev_hit hN rfl) (op_load1 (v := (ptr q 0)) one69 (ev_hit hN rfl) (hx.cell rfl) (op_move (ev_base hN rfl s1) (op_mkfn (cv := [(ptr b16 0), (ptr b7 0)]) ⟨(ev_hit hN rfl), ⟨(ev_hit hN rfl), trivial⟩⟩ ?_))))))
  refine op_fn (vs := [(ptr q 0), xv, (Value.func (.func 50) #[] #[(ptr b16 0), (ptr b7 0)])]) ok49 ⟨(ev_hit hN rfl), ⟨(ev_hit hN rfl), ⟨(ev_hit hN rfl), trivial⟩⟩⟩ (scanAllI h (TreeR.later (B := w.heap.size) hT (Gr.ofBelow hb _) hT.ty.lt hR) hO h6 hT.ty.lt hR hkl hxr (show AccR kI 48 w.heap.size b16 b7 (lim : Int) w15 [] (fun k => k = b16 ∨ k = b7 ∨ Bl (.slice none 0 0) k) from ⟨by omega, by omega, by omega, ⟨_, hB18, Own.nil _ _ _ _, fun _ => Iff.rfl⟩, hB11, fun _ h => (by cases h), List.Pairwise.nil⟩) hb.size (show 0 < lim by omega) hlim (by simpa using hDM)) ?_
  rintro _ w22 ⟨E23, rfl, D2_21, F2_21, hA21, hE21⟩
  have z_w22 := E23.size
  have hb := below_stepG hb E23 hb.size (fun k hk => hk)
  obtain ⟨_, _, _, ⟨ov21, hob21, hOv21, _⟩, _, hks21, hpw9⟩ := hA21
  refine reg_nil (hK20 _ _ ?_)
  refine seq_any fun K24 hK24 => one_reg (op_load1 (v := ov21) one48 (ev_hit hN rfl) (hob21.cell rfl) (op_assign (ev_hit hN rfl) (reg_nil (hK24 _ _ (wp_ret ?_)))))
  refine ret1 rfl hd (ev_hit hN rfl) ⟨_, rfl, ?_⟩
  exact ⟨hb, D2_21, hOv21, hks21, by simpa using hE21, hpw9⟩

theorem scanT2I {p q : Nat} {m : Int} {xv : Value} {w : World} (hx : Bx w p 71 [ptr q 0]) (hm : m < 1) : Ret Try.prog 24 #[(ptr p 0), xv, (Value.int .i64 m)] w (fun v' w' => Below w.heap.size w w' ∧ v' = .slice none 0 0) := by
 have hb := Below.refl w.heap.size w
 refine enter (N := 29) Try.func24 rfl rfl (by simp) fun a0 hN hd hA => ?_
 have s0 : a0.tmps.getD 0 undef = (ptr p 0) := hA 0 (by simp)
 have s2 : a0.tmps.getD 2 undef = (Value.int .i64 m) := hA 2 (by simp)
 clear hA
 refine seq_any fun K4 hK4 => one_reg (op_box (cs := [(Value.int .i64 m)]) (ev_base hN rfl s2) rfl ?_)
 intro w5 b6 lo_b6 hi_b6 hB8 E7
 have z_w5 := E7.size
 have hx := hx.keep0 E7
 have hb := below_step0 hb E7 hb.size
 refine op_assign rfl ?_
 refine reg_nil (hK4 _ _ (seq_any fun K9 hK9 => seq_any fun K10 hK10 => one_reg (op_move (ev_base hN rfl s0) (op_peq_some ptrt45 (ev_hit hN rfl) rfl ?_))))
 refine op_move (ev_hit hN rfl) (g_true (j := 2) (dj := 10) (b := false) rfl rfl rfl (ev_hit hN rfl) (op_move (ev_base hN rfl s0) (g_true (j := 2) (dj := 10) (b := false) rfl rfl rfl (ev_hit hN rfl) ?_)))
 refine op_nil (ev_hit hN rfl) (g_true (j := 2) (dj := 10) (b := false) rfl rfl rfl (ev_hit hN rfl) (op_field fld71_0 (ev_hit hN rfl) (g_true (j := 2) (dj := 10) (b := false) rfl rfl rfl (ev_hit hN rfl) (op_load1 (v := (ptr q 0)) one69 (ev_hit hN rfl) (hx.cell rfl) (g_true (j := 2) (dj := 10) (b := false) rfl rfl rfl (ev_hit hN rfl) (op_peq_some ptrt69 (ev_hit hN rfl) rfl ?_))))))
 refine op_pick_f (ev_hit hN rfl) (ev_hit hN rfl) ?_
 refine op_move (ev_hit hN rfl) (g_true (j := 9) (dj := 17) (b := false) rfl rfl rfl (ev_hit hN rfl) (op_load1 (v := (Value.int .i64 m)) one3 (ev_hit hN rfl) (hB8.cell rfl) (g_true (j := 9) (dj := 17) (b := false) rfl rfl rfl (ev_hit hN rfl) (op_lss (ev_hit hN rfl) rfl (fun c19 => ?_) (fun c19 => ?_)))))
 ·
  refine op_pick_f (ev_hit hN rfl) (ev_hit hN rfl) ?_
  refine reg_nil (hK10 _ _ ?_)
  refine wp_cond_true (ev_hit hN rfl) (seq_any fun K11 hK11 => one_reg (op_assign rfl (reg_nil (hK11 _ _ (wp_ret (then_ret ( ?_)))))))
  refine ret1 rfl hd (ev_hit hN rfl) ⟨_, rfl, ?_⟩
  exact ⟨hb, rfl⟩
 ·
  exfalso; omega
theorem scanTopI {o : TO (Int)} {F : Nat → Prop} {x : List UInt8} {xv : Value} {p base : Nat} {m : Int} {w : World} (hT : TopR kI 71 base w p o F) (hkl : ∀ q ∈ toLO o, q.1.length ≤ 1000000000) (hxr : RdC w 0 w.heap.size 1 xv x.length (x.map u8v)) (hm : m ≤ 9223372036854775807) (hDM : (toLO o).length ≤ 100000) :
    Ret Try.prog 24 #[ptr p 0, xv, .int .i64 m] w (fun v' w' => Below w.heap.size w w' ∧ ∃ D2 : List (DP (Int)), Own w' w.heap.size 51 2 v' D2.length (D2.flatMap cI) ∧ (∀ x9 ∈ D2.map pk, Own w' w.heap.size 5 1 x9.1 x9.2.length (x9.2.map u8v)) ∧ D2.map Prod.snd = (geL x (toLO o)).take m.toNat ∧ (D2.map pk).Pairwise (fun a b => Dj (Bl a.1) (Bl b.1))) := by
  obtain ⟨hF, hlt, hO, root, hB', hr⟩ := hT
  rcases hr with ⟨rfl, rfl⟩ | ⟨q, R, W, rfl, hTO, hFW, hFR⟩
  · exact (scanT0I hB').mono fun v' w' h => by
      obtain ⟨hb, rfl⟩ := h
      exact ⟨hb, [], Own.nil _ _ _ _, fun _ h => (by cases h), by simp [toLO, geL], List.Pairwise.nil⟩
  · match o, hO, hTO, hkl, hDM with
    | some ⟨h, t⟩, hO, hTO, hkl, hDM =>
      rcases (by omega : m < 1 ∨ 1 ≤ m) with h1 | h1
      · exact (scanT2I hB' h1).mono fun v' w' h => by
          obtain ⟨hb, rfl⟩ := h
          exact ⟨hb, [], Own.nil _ _ _ _, fun _ h => (by cases h), by rw [show m.toNat = 0 by omega]; simp, List.Pairwise.nil⟩
      · obtain ⟨lim, rfl⟩ : ∃ lim : Nat, m = (lim : Int) := ⟨m.toNat, by omega⟩
        exact scanT1I hB' hTO hO.1 hO.2.2 (fun k hk => (hlt k (hFR k hk)).2) hkl hxr (by omega) (by omega) hDM
end Go.Proofs.Ytcpfdfejojghbaa

namespace Go.Gx
open Go.Bt Go.RowKit
theorem ee_ins {α : Type} : ∀ {l : List α} {i : Nat} (x : α), i + 1 < l.length → ((l.eraseIdx i).eraseIdx i).insertIdx i x = (l.set i x).eraseIdx (i + 1)
  | a :: b :: l, 0, x, _ => rfl
  | a :: l, i + 1, x, h => by
    have := ee_ins (l := l) (i := i) x (by simpa using h)
    simp only [List.eraseIdx_cons_succ, List.insertIdx_succ_cons, List.set_cons_succ, this]
theorem e_set {α : Type} : ∀ {l : List α} {i : Nat} (x : α), (l.eraseIdx i).set i x = (l.set (i + 1) x).eraseIdx i
  | [], i, x => by simp
  | a :: l, 0, x => by simp
  | a :: l, i + 1, x => by
    have := e_set (l := l) (i := i) x
    simp only [List.eraseIdx_cons_succ, List.set_cons_succ, this]
theorem e_get {P : List Nat} {i : Nat} : (P.eraseIdx i).getD i default = P.getD (i + 1) default := by simp [List.getD_eq_getElem?_getD, List.getElem?_eraseIdx]
section
variable {α : Type} {A : Nat → α → (Nat → Prop) → Prop} {ys9 : List α} {a b c d : α} {i : Nat} {P : List Nat} {G G0 f g : Nat → Prop}
theorem Kids.cut2 (K : Kids A P ys9 G) (ha : ys9[i]? = some a) (hb : ys9[i + 1]? = some b) : ∃ f g G0, A (P.getD i default) a f ∧ A (P.getD (i + 1) default) b g ∧ Kids A ((P.eraseIdx i).eraseIdx i) ((ys9.eraseIdx i).eraseIdx i) G0 ∧ Dj f g ∧ Dj f G0 ∧ Dj g G0 ∧ (∀ k, f k → G k) ∧ (∀ k, g k → G k) ∧ (∀ k, G0 k → G k) := by
  obtain ⟨f, G1, hA, K1, d1, s1, s2⟩ := K.cutc ha
  have e : (ys9.eraseIdx i)[i]? = some b := by rw [List.getElem?_eraseIdx, if_neg (by omega)]; exact hb
  obtain ⟨g, G0, hB, K2, d2, s3, s4⟩ := K1.cutc e
  rw [e_get] at hB
  exact ⟨f, g, G0, hA, hB, K2, fun k hf hg => d1 k hf (s3 k hg), fun k hf hg => d1 k hf (s4 k hg), d2, s1, fun k hk => s2 k (s3 k hk), fun k hk => s2 k (s4 k hk)⟩
theorem Kids.back2 (K : Kids A ((P.eraseIdx i).eraseIdx i) ((ys9.eraseIdx i).eraseIdx i) G0) (hl : P.length = ys9.length) (hi : i + 1 < ys9.length) (hA : A (P.getD i default) c f) (hB : A (P.getD (i + 1) default) d g) (h1 : Dj f g) (h2 : Dj f G0) (h3 : Dj g G0) :
    Kids A P ((ys9.set i c).set (i + 1) d) (fun k => f k ∨ g k ∨ G0 k) := by
  have K1 := Kids.back1 (P := P.eraseIdx i) (ts := ys9.eraseIdx i) (i := i) K (by rw [List.length_eraseIdx, List.length_eraseIdx, if_pos (by omega), if_pos (by omega)]; omega) (by rw [List.length_eraseIdx, if_pos (by omega)]; omega) (c := d) (f := g) (by rw [e_get]; exact hB) h3
  rw [e_set] at K1
  have K2 := Kids.back1 K1 (by rw [List.length_set]; exact hl) (by rw [List.length_set]; omega) hA (fun k h q => q.elim (h1 k h) (h2 k h))
  rwa [List.set_comm _ _ (by omega)] at K2
theorem Kids.join2 (K : Kids A ((P.eraseIdx i).eraseIdx i) ((ys9.eraseIdx i).eraseIdx i) G0) (hl : P.length = ys9.length) (hi : i + 1 < ys9.length) (hA : A (P.getD i default) c f) (h2 : Dj f G0) :
    Kids A (P.eraseIdx (i + 1)) ((ys9.set i c).eraseIdx (i + 1)) (fun k => f k ∨ G0 k) := by
  have e1 : (ys9.eraseIdx i).length = ys9.length - 1 := by rw [List.length_eraseIdx, if_pos (by omega)]
  have e2 : ((ys9.eraseIdx i).eraseIdx i).length = ys9.length - 1 - 1 := by rw [List.length_eraseIdx, e1, if_pos (by omega)]
  have := K.ins (i := i) (by omega) hA h2
  rwa [ee_ins _ (by omega), ee_ins _ hi, set_getD (by omega)] at this
end
end Go.Gx
namespace Go.Bt
section
variable {V : Type} {h i : Nat} {ks : List Ky} {cs : List (Tr V h)} {a b c : Tr V h}
def lendT (h : Nat) (ks : List Ky) (cs : List (Tr V h)) (i : Nat) (left : Bool) : Tr V (h + 1) :=
  let a := cs.getD i default; let b := cs.getD (i + 1) default; let K := ks.getD i []
  if left then (ks.set i (rotL h a K b).2.1, (cs.set i (rotL h a K b).1).set (i + 1) (rotL h a K b).2.2)
  else (ks.set i (rotR h a K b).2.1, (cs.set i (rotR h a K b).1).set (i + 1) (rotR h a K b).2.2)
def joinT (h : Nat) (ks : List Ky) (cs : List (Tr V h)) (i : Nat) : Tr V (h + 1) :=
  (ks.eraseIdx i, (cs.set i (glue h (cs.getD i default) (ks.getD i []) (cs.getD (i + 1) default))).eraseIdx (i + 1))
def lender (h : Nat) (cs : List (Tr V h)) (i : Nat) (left : Bool) : Nat := szT h (cs.getD (if left then i + 1 else i) default)
theorem mends_lend (hl : 3 < lender h cs (i - 1) (decide (i = 0))) : mendsT h ((ks, cs) : Tr V (h + 1)) i = lendT h ks cs (i - 1) (decide (i = 0)) := by
  by_cases hi : i = 0
  · have q : 3 < szT h (cs.getD (i - 1 + 1) default) := by simpa [lender, hi] using hl
    exact (if_pos ⟨hi, q⟩).trans (if_pos (decide_eq_true hi)).symm
  · have q : 3 < szT h (cs.getD (i - 1) default) := by simpa [lender, hi] using hl
    exact (if_neg fun h => hi h.1).trans ((if_pos ⟨hi, q⟩).trans (if_neg (by simp [hi])).symm)
theorem mends_join (hl : ¬ 3 < lender h cs (i - 1) (decide (i = 0))) : mendsT h ((ks, cs) : Tr V (h + 1)) i = joinT h ks cs (i - 1) := by
  by_cases hi : i = 0
  · have q : ¬ 3 < szT h (cs.getD (i - 1 + 1) default) := by simpa [lender, hi] using hl
    exact (if_neg fun h => q h.2).trans (if_neg fun h => h.1 hi)
  · have q : ¬ 3 < szT h (cs.getD (i - 1) default) := by simpa [lender, hi] using hl
    exact (if_neg fun h => hi h.1).trans (if_neg fun h => q h.2)
end
end Go.Bt
namespace Go.Gx
open Go.Bt Go.RowKit
theorem set_K {K : List DK} {i : Nat} {d : DK} (hi : i < K.length) : (K.flatMap cK).take i ++ [d.1] ++ (K.flatMap cK).drop (i + 1) = (K.set i d).flatMap cK := by
  have := set_flat9 (f := cK) (sz := 1) (j := 0) (d := default) (x := d) (vs := [d.1]) (l := K) (i := i) (fun _ => rfl) hi (Nat.le_refl _) rfl
  rw [Nat.mul_one, Nat.add_zero] at this
  exact this
section
variable {V : Type} [Inhabited V] {h i : Nat} {K Ka Kb : List DK} {D Da Db : List (DP V)} {cs ta tb : List (Tr V h)} {w : World} {R : Nat → Prop}
theorem getD_of {α : Type} [Inhabited α] {l : List α} {i : Nat} {a : α} (h : l[i]? = some a) : l.getD i default = a := by rw [List.getD_eq_getElem?_getD, h]; rfl
theorem lend_LL {cs : List (Tr V 0)} (ha : cs[i]? = some ((Da.map Prod.snd : List (Ky × V)) : Tr V 0)) (hb : cs[i + 1]? = some ((Db.map Prod.snd : List (Ky × V)) : Tr V 0)) (h1 : 1 < Db.length) :
    lendT 0 (K.map Prod.snd) cs i true = ((K.set i (pk ((Db.drop 1).getD 0 default))).map Prod.snd, (cs.set i (((Da ++ [Db.getD 0 default]).map Prod.snd : List (Ky × V)) : Tr V 0)).set (i + 1) (((Db.drop 1).map Prod.snd : List (Ky × V)) : Tr V 0)) := by
  unfold lendT
  rw [getD_of ha, getD_of hb]
  match Db, h1 with
  | x :: y :: t, _ =>
    show ((K.map Prod.snd).set i y.2.1, (cs.set i ((Da.map Prod.snd ++ [x.2] : List (Ky × V)) : Tr V 0)).set (i + 1) (((y :: t).map Prod.snd : List (Ky × V)) : Tr V 0)) = _
    rw [List.map_set]
    simp [pk]
theorem lend_LR {cs : List (Tr V 0)} (ha : cs[i]? = some ((Da.map Prod.snd : List (Ky × V)) : Tr V 0)) (hb : cs[i + 1]? = some ((Db.map Prod.snd : List (Ky × V)) : Tr V 0)) (h1 : 1 < Da.length) :
    lendT 0 (K.map Prod.snd) cs i false = ((K.set i (pk ((Db.insertIdx 0 (Da.getD (Da.length - 1) default)).getD 0 default))).map Prod.snd, (cs.set i (((Da.take (Da.length - 1)).map Prod.snd : List (Ky × V)) : Tr V 0)).set (i + 1) (((Db.insertIdx 0 (Da.getD (Da.length - 1) default)).map Prod.snd : List (Ky × V)) : Tr V 0)) := by
  unfold lendT
  rw [getD_of ha, getD_of hb]
  have e : (Da.map Prod.snd).drop ((Da.map Prod.snd).length - 1) = [(Da.getD (Da.length - 1) default).2] := by
    rw [← List.map_drop, List.length_map, List.drop_eq_getElem_cons (by omega), List.drop_eq_nil_of_le (by omega), List.getD_eq_getElem?_getD, List.getElem?_eq_getElem (by omega)]; rfl
  show ((K.map Prod.snd).set i (hd ((Da.map Prod.snd).drop ((Da.map Prod.snd).length - 1))), (cs.set i (((Da.map Prod.snd).take ((Da.map Prod.snd).length - 1) : List (Ky × V)) : Tr V 0)).set (i + 1) (((Da.map Prod.snd).drop ((Da.map Prod.snd).length - 1) ++ Db.map Prod.snd : List (Ky × V)) : Tr V 0)) = _
  rw [e, List.length_map, List.map_set, ← List.map_take]
  rfl
end
section
variable {V : Type} {h i : Nat} {K Ka Kb : List DK} {D Da Db : List (DP V)} {cs ta tb : List (Tr V h)} {w : World} {R : Nat → Prop}
theorem lend_NL {ta tb : List (Tr V h)} {cs : List (Tr V (h + 1))} (ha : cs[i]? = some ((Ka.map Prod.snd, ta) : Tr V (h + 1))) (hb : cs[i + 1]? = some ((Kb.map Prod.snd, tb) : Tr V (h + 1))) (hi : i < K.length) (h1 : 0 < Kb.length) (h2 : 0 < tb.length) :
    lendT (h + 1) (K.map Prod.snd) cs i true = ((K.set i (Kb.getD 0 default)).map Prod.snd, (cs.set i (((Ka ++ [K.getD i default]).map Prod.snd, ta ++ [tb.getD 0 default]) : Tr V (h + 1))).set (i + 1) (((Kb.drop 1).map Prod.snd, tb.drop 1) : Tr V (h + 1))) := by
  unfold lendT
  rw [getD_of ha, getD_of hb]
  match Kb, h1, tb, h2 with
  | x :: r, _, y :: t, _ =>
    show ((K.map Prod.snd).set i x.2, (cs.set i ((Ka.map Prod.snd ++ [(K.map Prod.snd).getD i []], ta ++ [y]) : Tr V (h + 1))).set (i + 1) ((r.map Prod.snd, t) : Tr V (h + 1))) = _
    rw [List.map_set, getD_map9 (d := default) hi, List.map_append]
    rfl
theorem lend_NR {ta tb : List (Tr V h)} {cs : List (Tr V (h + 1))} (ha : cs[i]? = some ((Ka.map Prod.snd, ta) : Tr V (h + 1))) (hb : cs[i + 1]? = some ((Kb.map Prod.snd, tb) : Tr V (h + 1))) (hi : i < K.length) (h1 : 0 < Ka.length) (h2 : ta.length = Ka.length + 1) :
    lendT (h + 1) (K.map Prod.snd) cs i false = ((K.set i (Ka.getD (Ka.length - 1) default)).map Prod.snd, (cs.set i (((Ka.take (Ka.length - 1)).map Prod.snd, ta.take (Ka.length - 1 + 1)) : Tr V (h + 1))).set (i + 1) (((Kb.insertIdx 0 (K.getD i default)).map Prod.snd, tb.insertIdx 0 (ta.getD (Ka.length - 1 + 1) default)) : Tr V (h + 1))) := by
  unfold lendT
  rw [getD_of ha, getD_of hb]
  have e : ta.drop (Ka.length - 1 + 1) = [ta.getD (Ka.length - 1 + 1) default] := by
    rw [List.drop_eq_getElem_cons (by omega), List.drop_eq_nil_of_le (by omega), List.getD_eq_getElem?_getD, List.getElem?_eq_getElem (by omega)]; rfl
  show ((K.map Prod.snd).set i ((Ka.map Prod.snd).getD ((Ka.map Prod.snd).length - 1) []), (cs.set i (((Ka.map Prod.snd).take ((Ka.map Prod.snd).length - 1), ta.take ((Ka.map Prod.snd).length - 1 + 1)) : Tr V (h + 1))).set (i + 1) (((K.map Prod.snd).getD i [] :: Kb.map Prod.snd, ta.drop ((Ka.map Prod.snd).length - 1 + 1) ++ tb) : Tr V (h + 1))) = _
  rw [List.length_map, e, List.map_set, getD_map9 (d := default) hi, getD_map9 (d := default) (l := Ka) (by omega), ← List.map_take]
  rfl
theorem join_L {cs : List (Tr V 0)} (ha : cs[i]? = some ((Da.map Prod.snd : List (Ky × V)) : Tr V 0)) (hb : cs[i + 1]? = some ((Db.map Prod.snd : List (Ky × V)) : Tr V 0)) :
    joinT 0 (K.map Prod.snd) cs i = ((K.eraseIdx i).map Prod.snd, (cs.set i (((Da ++ Db).map Prod.snd : List (Ky × V)) : Tr V 0)).eraseIdx (i + 1)) := by
  unfold joinT
  rw [getD_of ha, getD_of hb, map_erase9, List.map_append]
  rfl
theorem join_N {ta tb : List (Tr V h)} {cs : List (Tr V (h + 1))} (ha : cs[i]? = some ((Ka.map Prod.snd, ta) : Tr V (h + 1))) (hb : cs[i + 1]? = some ((Kb.map Prod.snd, tb) : Tr V (h + 1))) (hi : i < K.length) :
    joinT (h + 1) (K.map Prod.snd) cs i = ((K.eraseIdx i).map Prod.snd, (cs.set i (((Ka ++ [K.getD i default] ++ Kb).map Prod.snd, ta ++ tb) : Tr V (h + 1))).eraseIdx (i + 1)) := by
  unfold joinT
  rw [getD_of ha, getD_of hb, map_erase9]
  show _ = ((K.eraseIdx i).map Prod.snd, _)
  rw [getD_map9 (d := default) hi, List.map_append, List.map_append, List.append_assoc]
  rfl
theorem kr_snoc {D : List (DP V)} {d : DP V} {Q : DK → Prop} (ks : ∀ x9 ∈ D.map pk, Q x9) (hd : Q (pk d)) : ∀ x9 ∈ (D ++ [d]).map pk, Q x9 := fun x hx => by
  rw [List.map_append, List.mem_append] at hx
  rcases hx with hx | hx
  · exact ks x hx
  · rw [show ([d] : List (DP V)).map pk = [pk d] from rfl, List.mem_singleton] at hx
    subst hx; exact hd
theorem kr_app {D E : List (DP V)} {Q : DK → Prop} (ks : ∀ x9 ∈ D.map pk, Q x9) (ks2 : ∀ x9 ∈ E.map pk, Q x9) : ∀ x9 ∈ (D ++ E).map pk, Q x9 := fun x hx => by
  rw [List.map_append, List.mem_append] at hx
  exact hx.elim (ks x) (ks2 x)
theorem kks_set {d : DK} {Q : DK → Prop} (ks : ∀ x9 ∈ K, Q x9) (hd : Q d) : ∀ x9 ∈ K.set i d, Q x9 := fun x hx => by
  rcases List.mem_or_eq_of_mem_set hx with h | h
  · exact ks _ h
  · subst h; exact hd
theorem kks_app {E : List DK} {Q : DK → Prop} (ks : ∀ x9 ∈ K, Q x9) (ks2 : ∀ x9 ∈ E, Q x9) : ∀ x9 ∈ K ++ E, Q x9 := fun x hx => (List.mem_append.1 hx).elim (ks x) (ks2 x)
theorem kks_one {d : DK} {Q : DK → Prop} (hd : Q d) : ∀ x9 ∈ [d], Q x9 := fun x hx => by rw [List.mem_singleton.1 hx]; exact hd
theorem kks_sub {E : List DK} {Q : DK → Prop} (ks : ∀ x9 ∈ K, Q x9) (h : ∀ x ∈ E, x ∈ K) : ∀ x9 ∈ E, Q x9 := fun x hx => ks x (h x hx)
theorem one_pair {v : Value} {n : Int} (h : v.oneCell' = true) : [v, .int .i64 n].all Value.oneCell' = true := by
  simp only [List.all_cons, h, Bool.true_and]; rfl
theorem take1 {α : Type} {l : List α} {d : α} (h : 0 < l.length) : l.take 1 = [l.getD 0 d] := by
  match l, h with
  | a :: t, _ => rfl
theorem drop1 {α : Type} : ∀ {l : List α} {n : Nat} {d : α}, l.length = n + 1 → l.drop n = [l.getD n d]
  | [a], 0, _, _ => rfl
  | _ :: _ :: _, 0, _, h => by simp at h
  | [], _, _, h => by simp at h
  | _ :: t, n + 1, d, h => drop1 (l := t) (n := n) (d := d) (by simpa using h)
/-! blocks of unlike types are not the same -/
theorem bx_own_ne {w : World} {b t e base sz n : Nat} {v : Value} {cs ws : List Value} (B : Bx w b t cs) (O : Own w base e sz v n ws) (h : t ≠ e) : ¬ Bl v b := fun hk => by
  rcases O.2 with ⟨rfl, _⟩ | ⟨g, off, cap, cur, fr, rfl, _, hg, _⟩
  · simp [Bl, Value.ownBlock] at hk
  · have : g = b := by simpa [Bl, Value.ownBlock] using hk
    subst this
    have B' : w.heap[g]? = some (.cells cs.toArray t (0, 0)) := B
    rw [hg] at B'
    simp only [Option.some.injEq, Obj.cells.injEq] at B'
    exact h B'.2.1.symm
theorem own_own_dj {w : World} {e e2 base sz n base2 sz2 n2 : Nat} {v v2 : Value} {cs ws : List Value} (O : Own w base e sz v n cs) (O2 : Own w base2 e2 sz2 v2 n2 ws) (h : e ≠ e2) : Dj (Bl v) (Bl v2) := fun k hk hk2 => by
  rcases O.2 with ⟨rfl, _⟩ | ⟨g, off, cap, cur, fr, rfl, _, hg, _⟩
  · simp [Bl, Value.ownBlock] at hk
  · have : g = k := by simpa [Bl, Value.ownBlock] using hk
    subst this
    rcases O2.2 with ⟨rfl, _⟩ | ⟨g2, off2, cap2, cur2, fr2, rfl, _, hg2, _⟩
    · simp [Bl, Value.ownBlock] at hk2
    · have : g2 = g := by simpa [Bl, Value.ownBlock] using hk2
      subst this
      rw [hg] at hg2
      simp only [Option.some.injEq, Obj.cells.injEq] at hg2
      exact h hg2.2.1
end
end Go.Gx

namespace Go.Gx
open Go.RowKit
section
variable {P : Program} {Q : Exit → Act → World → Prop} {a : Act} {w w' w9 : World} {l : List (Nat × Value)} {ops : Array Oper} {rest : List Oper}
variable {d ty t e xt yt tx i : Nat} {p : String} {af : Array Edge} {x y : Operand} {v : Value} {k : IntKind} {n base sz by_ b o : Nat} {cs ws : List Value} {zv : Value} {r : Int}
theorem Own.atV (O : Own w base e sz v n cs) (h1 : i < n) : ∃ b o, base ≤ b ∧ AtV v (i * sz) b o := by
  obtain ⟨hl, ⟨rfl, rfl⟩ | ⟨g, off, cap, cur, fr, rfl, hb, _⟩⟩ := O
  · omega
  · exact ⟨g, off + i * sz, hb, off, n, cap, rfl, rfl⟩
theorem op_index_at (T : SlT P xt e zv sz by_) (hx : (putsL a l).eval x = v) (O : Own w9 base e sz v n cs) (hy : (putsL a l).eval y = .int k r) (hr : r = (i : Int)) (h1 : i < n) (hA : AtV v (i * sz) b o)
    (h : wpList P ops Q rest (putsL a ((d, ptr b o) :: l)) w) : wpList P ops Q (⟨some d, .indexAddr xt x y, ty, p, af, none⟩ :: rest) (putsL a l) w := by
  obtain ⟨inf, hi, hz0, hz1, hz2⟩ := info_parts T.info
  subst hr
  obtain ⟨hl, ⟨rfl, rfl⟩ | ⟨g, off, cap, cur, fr, rfl, hb, _⟩⟩ := O
  · omega
  · obtain ⟨off2, n2, c2, hv, rfl⟩ := hA
    injection hv with e1 e2 e3; injection e1 with e1; injection e1 with e1 e4; subst e1; subst e4
    refine op_gen (v := ptr g (off + i * sz)) rfl ?_ h
    have hand : (0 ≤ (i : Int) ∧ (i : Int) < (n : Int)) := by omega
    simp [execOp, hx, hy, Instr.indexAt, asIntOf, run_underlying T.und, sizeOf, typeInfo, hi, ptr, Addr.add_lit, hz1, h1]
theorem op_append_none {e' : Nat} (T : SlT P t e zv sz by_) (hu : P.underlying tx = some (.slice e')) (hp : 0 < sz) (hx : (putsL a l).eval x = .slice none 0 0) (hy : (putsL a l).eval y = .slice none 0 0)
    (h : ∀ w', w.grownBy w' none → wpList P ops Q rest (putsL a ((d, .slice none 0 0) :: l)) w') :
    wpList P ops Q (⟨some d, .call ⟨.builtin .append, #[x, y], #[t, tx]⟩, ty, p, af, none⟩ :: rest) (putsL a l) w :=
  op_append_room (i := 0) (m := 0) (v := .slice none 0 0) T hx (Own.nil w 0 e sz) hy (Src.ofRd hu hp (RdC.nil w 0 0 sz) rfl) (Nat.le_refl _) fun w' _ E => h w' E
theorem op_conv_bytes (ht : P.underlying t = some (.slice e)) (he : P.underlying e = some (.int .u8)) (hx : (putsL a l).eval x = .slice (some ⟨b, 0, none⟩) n n) (B : Bx w b e cs) (hl : cs.length = n) (hm : n ≤ maxLen) (hbase : base ≤ b)
    (h : ∀ w', Own w' base e 1 (.slice (some ⟨b, 0, none⟩) n n) n cs → w.grownBy w' (some b) → wpList P ops Q rest (putsL a ((d, .slice (some ⟨b, 0, none⟩) n n) :: l)) w') :
    wpList P ops Q (⟨some d, .convert t t x, ty, p, af, none⟩ :: rest) (putsL a l) w := by
  have hsh : w.shape? b = some (e, n) := by rw [← hl]; exact Bx.shape B
  have hr : (convert t t (.slice (some ⟨b, 0, none⟩) n n)).run P w = .ok (.slice (some ⟨b, 0, none⟩) n n) (w.freeze ⟨b, n, none⟩ 1) := by
    simp [convert, run_underlying ht, run_underlying he, markStringish, hsh]
  have B' : w.heap[b]? = some (.cells cs.toArray e (0, 0)) := B
  have hne : (1 : Nat) ≠ 0 := by decide
  refine op_gen (v := .slice (some ⟨b, 0, none⟩) n n) rfl (by simp only [execOp, hx, Sem.run_bind, hr, Result.andThen_ok, Sem.run_pure]; rfl) (h _ ?_ ?_)
  · refine ⟨by omega, .inr ⟨b, 0, n, cs.toArray, (n, n + 1), rfl, hbase, ?_, ?_, Nat.le_refl _, hm, ?_, ?_⟩⟩
    · unfold World.freeze
      rw [if_neg hne]
      show (w.heap.modify b _)[b]? = _
      rw [Array.getElem?_modify, if_pos rfl, B']
      rfl
    · intro j hj; simp at hj ⊢; omega
    · simp; omega
    · simp [← hl]
  · refine ⟨?_, ?_, ?_, ?_, fun k hk hn => ?_⟩
    · unfold World.freeze; rw [if_neg hne]
    · unfold World.freeze; rw [if_neg hne]
    · unfold World.freeze; rw [if_neg hne]
    · unfold World.freeze; rw [if_neg hne]; simp
    · unfold World.freeze
      rw [if_neg hne]
      show (w.heap.modify b _)[k]? = _
      rw [Array.getElem?_modify, if_neg (fun e => hn (by rw [e]))]
end
end Go.Gx
namespace Go.Gx
open Go.RowKit
section
variable {P : Program} {Q : Exit → Act → World → Prop} {a : Act} {w : World} {l : List (Nat × Value)} {ops : Array Oper} {rest : List Oper} {d ty e xt yt sz by_ : Nat} {p : String} {af : Array Edge} {x y : Operand} {zv : Value}
theorem op_nil_nil (T : SlT P xt e zv sz by_) (hx : (putsL a l).eval x = .slice none 0 0) (hy : (putsL a l).eval y = .slice none 0 0) (h : wpList P ops Q rest (putsL a ((d, .bool true) :: l)) w) :
    wpList P ops Q (⟨some d, .binOp .eql xt x y yt, ty, p, af, none⟩ :: rest) (putsL a l) w :=
  op_gen rfl (by
    have := Lib.run_eql_slice_nil (P := P) w xt e none 0 0 0 0 T.und
    have hg : (eqGuard .eql xt x y (Value.slice none 0 0) (Value.slice none 0 0)).run P w = .ok () w := by simp [eqGuard]
    simp only [execOp, hx, hy]
    simp [this, hg]) h
end
end Go.Gx

namespace Go.Proofs.Ytcpfdfejojghbaa
open Go.Gx Go.RowKit
attribute [local irreducible] wpList wpStill Code.wp Calls
open Go.Bt
theorem lendLL {i p : Nat} {R W G f g G0 : Nat → Prop} {kv cv : Value} {K : List DK} {P : List Nat} {w : World} (hNd : NodeR kI R w p kv cv K P G W) (hfg : Dj f g) (hfG : Dj f G0) (hgG : Dj g G0) (hfs : ∀ k, f k → G k) (hgs : ∀ k, g k → G k) (hGs : ∀ k, G0 k → G k) (hPl : P.length = K.length + 1) (hi : i < K.length) (hn : K.length ≤ 7) {cs : List (Tr Int 0)} {av bv : Value} {Da Db : List (DP Int)} (hA : LeafR kI R w (P.getD i default) av Da f) (hB : LeafR kI R w (P.getD (i + 1) default) bv Db g) (hr : KidsR kI R w 0 ((P.eraseIdx i).eraseIdx i) ((cs.eraseIdx i).eraseIdx i) G0) (hPc : P.length = cs.length) (ha : cs[i]? = some ((Da.map Prod.snd : List (Ky × Int)) : Tr Int 0)) (hb9 : cs[i + 1]? = some ((Db.map Prod.snd : List (Ky × Int)) : Tr Int 0)) (hna : Da.length ≤ 7) (hnb : Db.length ≤ 7) (h3 : 3 < Db.length) : Ret Try.prog 120 #[(ptr p 0), (Value.int .i64 ((i : Nat) : Int)), (Value.bool true)] w (fun v' w' => Gr w w' W ∧ v' = .bool true ∧ ∃ W', TreeR kI R w' (0 + 1) p (lendT 0 (K.map Prod.snd) cs i true) W' ∧ NewF w.heap.size W W') := by
 have h0 : 0 ≤ w.heap.size := Nat.zero_le _
 have hx : Bx w p 115 [.slice none 0 0, kv, cv] := hNd.bx
 have ok := hNd.ok
 have oc : Own w 0 69 1 cv P.length (P.flatMap cN) := hNd.oc
 have ks := hNd.ks
 have hi_p := hx.lt
 have djkG : Dj (Bl kv) G0 := hNd.nk.mono hGs
 have djcG : Dj (Bl cv) G0 := hNd.nc.mono hGs
 have djpG : ¬ G0 p := fun q => hNd.np (hGs p q)
 have hxa : Bx w (P.getD i default) 115 [av, .slice none 0 0, .slice none 0 0] := hA.bx
 have oa : Own w 0 51 2 av Da.length (Da.flatMap cI) := hA.op
 have kas := hA.ks
 have hxb : Bx w (P.getD (i + 1) default) 115 [bv, .slice none 0 0, .slice none 0 0] := hB.bx
 have ob : Own w 0 51 2 bv Db.length (Db.flatMap cI) := hB.op
 have kbs := hB.ks
 have hi_a := hxa.lt
 have hi_b := hxb.lt
 have hab : (P.getD i default) ≠ (P.getD (i + 1) default) := fun e => hfg _ hA.wp (e ▸ hB.wp)
 have hpa : p ≠ (P.getD i default) := fun e => hNd.np (e ▸ hfs _ hA.wp)
 have hpb : p ≠ (P.getD (i + 1) default) := fun e => hNd.np (e ▸ hgs _ hB.wp)
 have djab : DJ av bv := fun k h1 h2 => hfg k (hA.wv k h1) (hB.wv k h2)
 have djaG : Dj (Bl av) G0 := fun k h => hfG k (hA.wv k h)
 have djbG : Dj (Bl bv) G0 := fun k h => hgG k (hB.wv k h)
 have djpaG : ¬ G0 (P.getD i default) := hfG _ hA.wp
 have djpbG : ¬ G0 (P.getD (i + 1) default) := hgG _ hB.wp
 have hb := Gr.refl w W
 refine enter (N := 254) Try.func120 rfl rfl (by simp) fun a0 hN hd hA => ?_
 have s0 : a0.tmps.getD 0 undef = (ptr p 0) := hA 0 (by simp)
 have s1 : a0.tmps.getD 1 undef = (Value.int .i64 ((i : Nat) : Int)) := hA 1 (by simp)
 have s2 : a0.tmps.getD 2 undef = (Value.bool true) := hA 2 (by simp)
 clear hA
 refine seq_any fun K4 hK4 => one_reg (op_assign rfl (reg_nil (hK4 _ _ (seq_any fun K5 hK5 => reg_still mixed (by kernel_rfl) ?_))))
 intro w10 E6
 have z_w10 := E6.size
 have hx := hx.keep0 E6
 have ok := ok.keep0 E6
 have oc := oc.keep0 E6
 have ks := all9 ks fun _ h => h.keep0 E6
 have hxa := hxa.keep0 E6
 have hxb := hxb.keep0 E6
 have oa := oa.keep0 E6
 have ob := ob.keep0 E6
 have kas := all9 kas fun _ h => h.keep0 E6
 have kbs := all9 kbs fun _ h => h.keep0 E6
 have hr := hr.kz E6
 have hb := hb.step0 E6
 refine st_step rfl (fun _ h9 => op_move (ev_base hN rfl s0) h9) ?_
 refine st_step rfl (fun _ h9 => op_nil (ev_hit hN rfl) h9) ?_
 refine st_step rfl (fun _ h9 => op_field fld115_2 (ev_hit hN rfl) h9) ?_
 refine st_step rfl (fun _ h9 => op_load1 (v := cv) one113 (ev_hit hN rfl) (hx.cell rfl) h9) ?_
 refine st_step rfl (fun _ h9 => op_move (ev_base hN rfl s1) h9) ?_
 refine st_index_rd slt113 (ev_hit hN rfl) oc.rdw (ev_hit hN rfl) (by omega) (by omega) ?_
 intro b11 o12 h0b11 h1b11 hc13
 refine st_step rfl (fun _ h9 => op_load1 (v := (ptr (P.getD i default) 0)) one69 (ev_hit hN rfl) (by have := hc13 0 (ptr (P.getD i default) 0) (by decide) (el_pn (i := i) (by omega) (by first | omega | (simp only [List.length_drop, List.length_take]; omega))); simpa using this) h9) ?_
 refine st_step rfl (fun _ h9 => op_move (ev_base hN rfl s0) h9) ?_
 refine st_step rfl (fun _ h9 => op_nil (ev_hit hN rfl) h9) ?_
 refine st_step rfl (fun _ h9 => op_field fld115_2 (ev_hit hN rfl) h9) ?_
 refine st_step rfl (fun _ h9 => op_load1 (v := cv) one113 (ev_hit hN rfl) (hx.cell rfl) h9) ?_
 refine st_step rfl (fun _ h9 => op_move (ev_base hN rfl s1) h9) ?_
 refine st_step rfl (fun _ h9 => op_add (ev_hit hN rfl) rfl (add64 (by omega)) h9) ?_
 refine st_index_rd slt113 (ev_hit hN rfl) oc.rdw (ev_hit hN rfl) (by omega) (by omega) ?_
 intro b14 o15 h0b14 h1b14 hc16
 refine st_step rfl (fun _ h9 => op_load1 (v := (ptr (P.getD (i + 1) default) 0)) one69 (ev_hit hN rfl) (by have := hc16 0 (ptr (P.getD (i + 1) default) 0) (by decide) (el_pn (i := (i + 1)) (by omega) (by first | omega | (simp only [List.length_drop, List.length_take]; omega))); simpa using this) h9) ?_
 refine st_step rfl (fun _ h9 => op_assign (ev_hit hN rfl) h9) ?_
 refine st_step rfl (fun _ h9 => op_assign (ev_hit hN rfl) h9) ?_
 refine st_nil ?_
 refine hK5 _ _ (seq_any fun K17 hK17 => one_reg ?_)
 refine op_move (ev_hit hN rfl) (op_assign (ev_hit hN rfl) (reg_nil (hK17 _ _ (seq_any fun K18 hK18 => seq_any fun K19 hK19 => one_reg ?_))))
 refine op_move (ev_base hN rfl s2) (reg_nil (hK19 _ _ (wp_cond_true (ev_hit hN rfl) (one_reg (op_move (ev_hit hN rfl) (op_assign (ev_hit hN rfl) ?_))))))
 refine reg_nil (hK18 _ _ (seq_any fun K20 hK20 => seq_any fun K21 hK21 => one_reg (op_move (ev_hit hN rfl) (op_fn (vs := [(ptr (P.getD (i + 1) default) 0)]) ok52 ⟨(ev_hit hN rfl), trivial⟩ (Ret.flip (sizeLI hxb ob)) ?_))))
 rintro _ _ ⟨rfl, rfl⟩
 refine op_leq (ev_hit hN rfl) rfl (fun c32 => ?_) (fun c32 => ?_)
 ·
  exfalso; omega
 ·
  refine reg_nil (hK21 _ _ (wp_cond_false (ev_hit hN rfl) (wp_skip (hK20 _ _ (seq_any fun K22 hK22 => wp_block ?_)))))
  refine seq_any fun K23 hK23 => one_reg (op_move (ev_hit hN rfl) (op_fn (vs := [(ptr (P.getD i default) 0)]) ok81 ⟨(ev_hit hN rfl), trivial⟩ (Ret.flip (leafLI hxa oa)) ?_))
  rintro _ _ ⟨rfl, rfl⟩
  refine op_move (ev_hit hN rfl) (g_true (j := 2) (dj := 107) (b := true) rfl rfl rfl (ev_hit hN rfl) (op_move (ev_base hN rfl s2) (op_pick_t (ev_hit hN rfl) (ev_hit hN rfl) ?_)))
  refine op_assign (ev_hit hN rfl) (reg_nil (hK23 _ _ (wp_cond_true (ev_hit hN rfl) (seq_any fun K24 hK24 => ?_))))
  obtain ⟨b25, o26, _, hAt28⟩ := ob.atV (i := 0) (by omega)
  refine reg_split (hd := [_, _, _, _, _, _, _, _, _, _, _, _, _, _, _, _, _, _, _, _, _, _]) (tl := _) 22 mixed (by kernel_rfl) rfl rfl ?_
  refine any_envk (φ := phiV [(fun uz => uz = (ptr (P.getD i default) 0)), (fun uz => uz = (ptr (P.getD (i + 1) default) 0)), (fun uz => uz = (ptr (P.getD i default) 0)), (fun uz => uz = (ptr (P.getD i default) 0)), (fun uz => uz = (ptr (P.getD i default) 0)), (fun uz => uz = av), (fun uz => uz = (ptr (P.getD (i + 1) default) 0)), (fun uz => uz = (ptr (P.getD (i + 1) default) 0)), (fun uz => uz = (ptr (P.getD (i + 1) default) 0)), (fun uz => uz = bv), (fun uz => uz = (ptr b25 o26)), (fun uz => uz = (Value.agg #[(Db.getD 0 default).1, (Value.int .i64 (Db.getD 0 default).2.2)])), (fun _ => True), (fun _ => True), (fun uz => uz = (ptr (P.getD (i + 1) default) 0)), (fun uz => uz = (ptr (P.getD (i + 1) default) 0)), (fun uz => uz = (ptr (P.getD (i + 1) default) 0)), (fun uz => uz = bv), (fun uz => uz = (cutS 2 bv 1)), (fun uz => uz = (ptr (P.getD i default) 0)), (fun uz => uz = (ptr (P.getD i default) 0)), (fun _ => True)]) (G := fun c9 w' => c9 ≤ 2 → (Own w' 0 51 2 bv Db.length (Db.flatMap cI) ∧ Bx w' (P.getD i default) 115 [av, (Value.slice none 0 0), (Value.slice none 0 0)] ∧ Bx w' (P.getD (i + 1) default) 115 [bv, (Value.slice none 0 0), (Value.slice none 0 0)])) [12, 13, 21] (by kernel_rfl) (by kernel_rfl) (by kernel_rfl) (by kernel_rfl) hN (fun _ w1 w2 E h hc9 => by have h := h hc9; obtain ⟨h0, h1, h2⟩ := h; exact ⟨h0.keep0 E, h1.keep0 E, h2.keep0 E⟩) (fun _ => ⟨ob, hxa, hxb⟩) (ObKs.cons ?_ (ObKs.cons ?_ (ObKs.cons ?_ (ObKs.cons ?_ (ObKs.cons ?_ (ObKs.cons ?_ (ObKs.cons ?_ (ObKs.cons ?_ (ObKs.cons ?_ (ObKs.cons ?_ (ObKs.cons ?_ (ObKs.cons ?_ (ObKs.pass rfl (ObKs.pass rfl (ObKs.cons ?_ (ObKs.cons ?_ (ObKs.cons ?_ (ObKs.cons ?_ (ObKs.cons ?_ (ObKs.cons ?_ (ObKs.cons ?_ (ObKs.pass rfl (ObKs.nil))))))))))))))))))))))) (by simp only [putsL_defers]) ?_
  ·
   intro eA aA wA hNA hckA hGA hbsA hdpA
   have qA_7 := (hbsA 7 rfl).trans (sl_hit hN rfl)
   refine op_move (ev_base hNA rfl qA_7) ?_
   exact obK_end rfl rfl rfl
  ·
   intro eA aA wA hNA hckA hGA hbsA hdpA
   have qA_8 := (hbsA 8 rfl).trans (sl_hit hN rfl)
   refine op_move (ev_base hNA rfl qA_8) ?_
   exact obK_end rfl rfl rfl
  ·
   intro eA aA wA hNA hckA hGA hbsA hdpA
   have qA_7 := (hbsA 7 rfl).trans (sl_hit hN rfl)
   refine op_move (ev_base hNA rfl qA_7) ?_
   exact obK_end rfl rfl rfl
  ·
   intro eA aA wA hNA hckA hGA hbsA hdpA
   have qA_112 : Sl aA 112 (ptr (P.getD i default) 0) := (hdpA 2 _ 112 (by kernel_rfl) rfl rfl).2 rfl
   refine op_nil (ev_base hNA rfl qA_112) ?_
   exact obK_end rfl rfl rfl
  ·
   intro eA aA wA hNA hckA hGA hbsA hdpA
   have qA_113 : Sl aA 113 (ptr (P.getD i default) 0) := (hdpA 3 _ 113 (by kernel_rfl) rfl rfl).2 rfl
   refine op_field fld115_0 (ev_base hNA rfl qA_113) ?_
   exact obK_end rfl rfl rfl
  ·
   intro eA aA wA hNA hckA hGA hbsA hdpA
   have qA_114 : Sl aA 114 (ptr (P.getD i default) 0) := (hdpA 4 _ 114 (by kernel_rfl) rfl rfl).2 rfl
   have hGA := hGA (hckA 2 21 rfl (by kernel_rfl))
   obtain ⟨ob, hxa, hxb⟩ := hGA
   refine op_load1 (v := av) one48 (ev_base hNA rfl qA_114) (hxa.cell rfl) ?_
   exact obK_end rfl rfl rfl
  ·
   intro eA aA wA hNA hckA hGA hbsA hdpA
   have qA_8 := (hbsA 8 rfl).trans (sl_hit hN rfl)
   refine op_move (ev_base hNA rfl qA_8) ?_
   exact obK_end rfl rfl rfl
  ·
   intro eA aA wA hNA hckA hGA hbsA hdpA
   have qA_116 : Sl aA 116 (ptr (P.getD (i + 1) default) 0) := (hdpA 6 _ 116 (by kernel_rfl) rfl rfl).2 rfl
   refine op_nil (ev_base hNA rfl qA_116) ?_
   exact obK_end rfl rfl rfl
  ·
   intro eA aA wA hNA hckA hGA hbsA hdpA
   have qA_117 : Sl aA 117 (ptr (P.getD (i + 1) default) 0) := (hdpA 7 _ 117 (by kernel_rfl) rfl rfl).2 rfl
   refine op_field fld115_0 (ev_base hNA rfl qA_117) ?_
   exact obK_end rfl rfl rfl
  ·
   intro eA aA wA hNA hckA hGA hbsA hdpA
   have qA_118 : Sl aA 118 (ptr (P.getD (i + 1) default) 0) := (hdpA 8 _ 118 (by kernel_rfl) rfl rfl).2 rfl
   have hGA := hGA (hckA 2 21 rfl (by kernel_rfl))
   obtain ⟨ob, hxa, hxb⟩ := hGA
   refine op_load1 (v := bv) one48 (ev_base hNA rfl qA_118) (hxb.cell rfl) ?_
   exact obK_end rfl rfl rfl
  ·
   intro eA aA wA hNA hckA hGA hbsA hdpA
   have qA_119 : Sl aA 119 bv := (hdpA 9 _ 119 (by kernel_rfl) rfl rfl).2 rfl
   refine op_index_at (i := 0) slt48 (ev_base hNA rfl qA_119) ob rfl (by omega) (by omega) hAt28 ?_
   exact obK_end rfl rfl rfl
  ·
   intro eA aA wA hNA hckA hGA hbsA hdpA
   have qA_120 : Sl aA 120 (ptr b25 o26) := (hdpA 10 _ 120 (by kernel_rfl) rfl rfl).2 rfl
   have hGA := hGA (hckA 2 21 rfl (by kernel_rfl))
   obtain ⟨ob, hxa, hxb⟩ := hGA
   refine op_loadA (cs := [(Db.getD 0 default).1, (Value.int .i64 (Db.getD 0 default).2.2)]) agg51 rfl (ev_base hNA rfl qA_120) (fun j u hu => ob.cellAt hAt28 j u (el_pI (e := ((0 : Nat) : Int)) (i := 0) rfl (by omega) j u hu)) ?_
   exact obK_end rfl rfl rfl
  ·
   intro eA aA wA hNA hckA hGA hbsA hdpA
   have qA_8 := (hbsA 8 rfl).trans (sl_hit hN rfl)
   refine op_move (ev_base hNA rfl qA_8) ?_
   exact obK_end rfl rfl rfl
  ·
   intro eA aA wA hNA hckA hGA hbsA hdpA
   have qA_124 : Sl aA 124 (ptr (P.getD (i + 1) default) 0) := (hdpA 14 _ 124 (by kernel_rfl) rfl rfl).2 rfl
   refine op_nil (ev_base hNA rfl qA_124) ?_
   exact obK_end rfl rfl rfl
  ·
   intro eA aA wA hNA hckA hGA hbsA hdpA
   have qA_125 : Sl aA 125 (ptr (P.getD (i + 1) default) 0) := (hdpA 15 _ 125 (by kernel_rfl) rfl rfl).2 rfl
   refine op_field fld115_0 (ev_base hNA rfl qA_125) ?_
   exact obK_end rfl rfl rfl
  ·
   intro eA aA wA hNA hckA hGA hbsA hdpA
   have qA_126 : Sl aA 126 (ptr (P.getD (i + 1) default) 0) := (hdpA 16 _ 126 (by kernel_rfl) rfl rfl).2 rfl
   have hGA := hGA (hckA 2 21 rfl (by kernel_rfl))
   obtain ⟨ob, hxa, hxb⟩ := hGA
   refine op_load1 (v := bv) one48 (ev_base hNA rfl qA_126) (hxb.cell rfl) ?_
   exact obK_end rfl rfl rfl
  ·
   intro eA aA wA hNA hckA hGA hbsA hdpA
   have qA_127 : Sl aA 127 bv := (hdpA 17 _ 127 (by kernel_rfl) rfl rfl).2 rfl
   refine op_slice_cutS (k := 1) slt48 (ev_base hNA rfl qA_127) ob rfl (by omega) (by omega) ?_
   exact obK_end rfl rfl rfl
  ·
   intro eA aA wA hNA hckA hGA hbsA hdpA
   have qA_110 : Sl aA 110 (ptr (P.getD i default) 0) := (hdpA 0 _ 110 (by kernel_rfl) rfl rfl).2 rfl
   refine op_nil (ev_base hNA rfl qA_110) ?_
   exact obK_end rfl rfl rfl
  ·
   intro eA aA wA hNA hckA hGA hbsA hdpA
   have qA_129 : Sl aA 129 (ptr (P.getD i default) 0) := (hdpA 19 _ 129 (by kernel_rfl) rfl rfl).2 rfl
   refine op_field fld115_0 (ev_base hNA rfl qA_129) ?_
   exact obK_end rfl rfl rfl
  ·
   intro w29 E29 _ a29 hN29 hbs29 hdp29 o_ ho_; obtain rfl := Option.some.inj ho_
   have z_w29 := E29.size
   have hx := hx.keep0 E29
   have ok := ok.keep0 E29
   have oc := oc.keep0 E29
   have ks := all9 ks fun _ h => h.keep0 E29
   have hxa := hxa.keep0 E29
   have hxb := hxb.keep0 E29
   have oa := oa.keep0 E29
   have ob := ob.keep0 E29
   have kas := all9 kas fun _ h => h.keep0 E29
   have kbs := all9 kbs fun _ h => h.keep0 E29
   have hr := hr.kz E29
   have hb := hb.step0 E29
   have q29_121 : Sl a29 121 (Value.agg #[(Db.getD 0 default).1, (Value.int .i64 (Db.getD 0 default).2.2)]) := (hdp29 11 _ 121 (by kernel_rfl) rfl rfl).2 rfl
   refine op_bslice (e := 51) (pv := [(0, (Value.agg #[(Db.getD 0 default).1, (Value.int .i64 (Db.getD 0 default).2.2)]))]) (cs := [(Db.getD 0 default).1, (Value.int .i64 (Db.getD 0 default).2.2)]) ⟨rfl, (ev_base hN29 rfl q29_121), trivial⟩ (by kernel_rfl) ?_
   intro w30 b31 lo_b31 hi_b31 hB34 E33
   have z_w30 := E33.size
   have hx := hx.keep0 E33
   have ok := ok.keep0 E33
   have oc := oc.keep0 E33
   have ks := all9 ks fun _ h => h.keep0 E33
   have hxa := hxa.keep0 E33
   have hxb := hxb.keep0 E33
   have oa := oa.keep0 E33
   have ob := ob.keep0 E33
   have kas := all9 kas fun _ h => h.keep0 E33
   have kbs := all9 kbs fun _ h => h.keep0 E33
   have hr := hr.kz E33
   have hb := hb.step0 E33
   refine kk_end rfl (by decide) rfl (fun _ => ⟨ob, hxa, hxb⟩) ?_
   intro w35 E35 _ a35 hN35 hbs35 hdp35 o_ ho_; obtain rfl := Option.some.inj ho_
   have z_w35 := E35.size
   have hx := hx.keep0 E35
   have ok := ok.keep0 E35
   have oc := oc.keep0 E35
   have ks := all9 ks fun _ h => h.keep0 E35
   have hxa := hxa.keep0 E35
   have hxb := hxb.keep0 E35
   have oa := oa.keep0 E35
   have ob := ob.keep0 E35
   have kas := all9 kas fun _ h => h.keep0 E35
   have kbs := all9 kbs fun _ h => h.keep0 E35
   have hr := hr.kz E35
   have hB34 := hB34.keep0 E35
   have hb := hb.step0 E35
   have q35_115 : Sl a35 115 av := (hdp35 5 _ 115 (by kernel_rfl) rfl rfl).2 rfl
   have q35_122 : Sl a35 122 (Value.slice (some ⟨b31, 0, none⟩) 1 1) := (Option.some.inj ((hdp35 12 _ 122 (by kernel_rfl) rfl rfl).1 0 rfl)).symm
   have hP41 := oa
   refine op_append slt48 (ev_base hN35 rfl q35_115) hP41 (ev_base hN35 rfl q35_122) (Src.ofRd Try.underlying48 (by decide) (RdC.ofBx (sz := 2) (n := 1) hB34 rfl (by decide)) (one_pair (own_one (kbs _ (ks_mem (i := 0) (by omega)))))) (by unfold maxLen; omega) (by omega) (Nat.le_trans (by assumption) hb.size) ?_
   intro v36 w37 hO39 E38 hm40
   have dj42 : DJ bv v36 := DJ.step hm40 (fun k hk => (ob.lt k hk).2) djab.symm
   have dj43 : Dj G0 (Bl v36) := Dj.step hm40 (fun k hk => (hr.lt k hk).2) djaG.symm
   have z_w37 := E38.size
   have hx := hx.keepO hP41 E38 (by decide)
   have ok := ok.keepT hP41 E38 (by decide)
   have oc := oc.keepT hP41 E38 (by decide)
   have ks := all9 ks fun _ h => h.keepT hP41 E38 (by decide)
   have hxa := hxa.keepO hP41 E38 (by decide)
   have hxb := hxb.keepO hP41 E38 (by decide)
   have ob := ob.keepD E38 djab.symm
   have kas := all9 kas fun _ h => h.keepT hP41 E38 (by decide)
   have kbs := all9 kbs fun _ h => h.keepT hP41 E38 (by decide)
   have hr := hr.keepG (Gr.of E38) djaG.symm (NoK.ofOwn hP41 (by decide))
   have hb := hb.stepL E38 (fun k _ h => hNd.wg k (hfs k (hA.wv k h)))
   have hO39 : Own w37 0 51 2 v36 (Da.length + 1) ((Da.flatMap cI ++ [(Db.getD 0 default).1, (Value.int .i64 (Db.getD 0 default).2.2)])) := by simpa [u8v, sv] using hO39
   refine kk_end rfl (by decide) rfl (fun _ => ⟨ob, hxa, hxb⟩) ?_
   intro w44 E44 _ a44 hN44 hbs44 hdp44 o_ ho_; obtain rfl := Option.some.inj ho_
   have z_w44 := E44.size
   have hx := hx.keep0 E44
   have ok := ok.keep0 E44
   have oc := oc.keep0 E44
   have ks := all9 ks fun _ h => h.keep0 E44
   have hxa := hxa.keep0 E44
   have hxb := hxb.keep0 E44
   have ob := ob.keep0 E44
   have kas := all9 kas fun _ h => h.keep0 E44
   have kbs := all9 kbs fun _ h => h.keep0 E44
   have hr := hr.kz E44
   have hO39 := hO39.keep0 E44
   have hb := hb.step0 E44
   have q44_130 : Sl a44 130 (ptr (P.getD i default) 0) := (hdp44 20 _ 130 (by kernel_rfl) rfl rfl).2 rfl
   have q44_123 : Sl a44 123 v36 := (Option.some.inj ((hdp44 13 _ 123 (by kernel_rfl) rfl rfl).1 1 rfl)).symm
   have hxa_old := hxa
   refine op_store (vs := [v36]) (cs' := [v36, (Value.slice none 0 0), (Value.slice none 0 0)]) size48 (ev_base hN44 rfl q44_130) (ev_base hN44 rfl q44_123) hO39.cl rfl (by simp only [List.all_cons, List.all_nil, Bool.true_and, Bool.and_true, hO39.one]; try rfl) hxa (Nat.le_of_ble_eq_true rfl) rfl ?_
   intro w45 hxa E46
   have z_w45 := E46.size
   have hx := hx.keep E46 (by simp only [ne_eq, Option.some.injEq]; omega)
   have ok := ok.keepX hxa_old E46 (by decide)
   have oc := oc.keepX hxa_old E46 (by decide)
   have ks := all9 ks fun _ h => h.keepX hxa_old E46 (by decide)
   have hxb := hxb.keep E46 (by simp only [ne_eq, Option.some.injEq]; omega)
   have ob := ob.keepX hxa_old E46 (by decide)
   have kas := all9 kas fun _ h => h.keepX hxa_old E46 (by decide)
   have kbs := all9 kbs fun _ h => h.keepX hxa_old E46 (by decide)
   have hr := hr.keepG (Gr.of E46) (Dj.one djpaG) (NoK.ofBx hxa_old (by decide))
   have hO39 := hO39.keepX hxa_old E46 (by decide)
   have hb := hb.stepB E46 (hNd.wg _ (hfs _ hA.wp))
   refine kk_end0 rfl (fun h => absurd h (by simp)) ?_
   intro w47 E47 a47 hN47 hd47 hbs47 hph47
   have hd47 := hd47.trans ((by simp only [putsL_defers] : _ = _).trans hd)
   have z_w47 := E47.size
   have hx := hx.keep0 E47
   have ok := ok.keep0 E47
   have oc := oc.keep0 E47
   have ks := all9 ks fun _ h => h.keep0 E47
   have hxb := hxb.keep0 E47
   have ob := ob.keep0 E47
   have kas := all9 kas fun _ h => h.keep0 E47
   have kbs := all9 kbs fun _ h => h.keep0 E47
   have hr := hr.kz E47
   have hO39 := hO39.keep0 E47
   have hxa := hxa.keep0 E47
   have hb := hb.step0 E47
   have s47_0 := (hbs47 0 rfl).trans (sl_base hN rfl s0)
   have s47_1 := (hbs47 1 rfl).trans (sl_base hN rfl s1)
   have s47_8 := (hbs47 8 rfl).trans (sl_hit hN rfl)
   have s47_111 : Sl a47 111 (ptr (P.getD (i + 1) default) 0) := (hph47 1 _ 111 rfl rfl).2 rfl
   have s47_128 : Sl a47 128 (cutS 2 bv 1) := (hph47 18 _ 128 rfl rfl).2 rfl
   refine split_end ?_
   refine from_seq (tl := [_, _, _]) (by decide) (by kernel_rfl) rfl ?_
   refine op_nil (ev_base hN47 rfl s47_111) (op_field fld115_0 (ev_hit hN47 rfl) ?_)
   have hxb_old := hxb
   refine op_store (vs := [(cutS 2 bv 1)]) (cs' := [(cutS 2 bv 1), (Value.slice none 0 0), (Value.slice none 0 0)]) size48 (ev_hit hN47 rfl) (ev_base hN47 rfl s47_128) (own_cl (ob.cutO (k := 1) (by omega))) rfl (by simp only [List.all_cons, List.all_nil, Bool.true_and, Bool.and_true, (own_one (ob.cutO (k := 1) (by omega)))]; try rfl) hxb (Nat.le_of_ble_eq_true rfl) rfl ?_
   intro w49 hxb E50
   have z_w49 := E50.size
   have hx := hx.keep E50 (by simp only [ne_eq, Option.some.injEq]; omega)
   have ok := ok.keepX hxb_old E50 (by decide)
   have oc := oc.keepX hxb_old E50 (by decide)
   have ks := all9 ks fun _ h => h.keepX hxb_old E50 (by decide)
   have ob := ob.keepX hxb_old E50 (by decide)
   have kas := all9 kas fun _ h => h.keepX hxb_old E50 (by decide)
   have kbs := all9 kbs fun _ h => h.keepX hxb_old E50 (by decide)
   have hr := hr.keepG (Gr.of E50) (Dj.one djpbG) (NoK.ofBx hxb_old (by decide))
   have hO39 := hO39.keepX hxb_old E50 (by decide)
   have hxa := hxa.keep E50 (by simp only [ne_eq, Option.some.injEq]; omega)
   have hb := hb.stepB E50 (hNd.wg _ (hgs _ hB.wp))
   refine reg_nil (hK24 _ _ ?_)
   have dj54 : Dj G0 (Bl (cutS 2 bv 1)) := fun k hk hg => djbG.symm k hk (ob.cut_ob.symm.trans hg)
   have dj55 : DJ v36 (cutS 2 bv 1) := fun k hk hg => dj42.symm k hk (ob.cut_ob.symm.trans hg)
   have hl_hcv53 : (Db.drop 1).length = Db.length - 1 := List.length_drop
   have hcv53 : Own w49 0 51 2 (cutS 2 bv 1) (Db.drop 1).length ((Db.drop 1).flatMap cI) := (ob.cutO (k := 1) (by omega)).cast (by simp) (flat_drop cI_len _ _)
   refine reg_from mixed ?_
   intro w57 E56
   have z_w57 := E56.size
   have hx := hx.keep0 E56
   have ok := ok.keep0 E56
   have oc := oc.keep0 E56
   have ks := all9 ks fun _ h => h.keep0 E56
   have kas := all9 kas fun _ h => h.keep0 E56
   have kbs := all9 kbs fun _ h => h.keep0 E56
   have hr := hr.kz E56
   have hO39 := hO39.keep0 E56
   have hxa := hxa.keep0 E56
   have hxb := hxb.keep0 E56
   have hcv53 := hcv53.keep0 E56
   have hb := hb.step0 E56
   refine from_still (m := 13) 13 (hd := [_, _, _, _, _, _, _, _, _, _, _, _, _]) (by kernel_rfl) rfl rfl ?_
   refine st_step rfl (fun _ h9 => op_move (ev_base hN47 rfl s47_0) h9) ?_
   refine st_step rfl (fun _ h9 => op_nil (ev_hit hN47 rfl) h9) ?_
   refine st_step rfl (fun _ h9 => op_field fld115_1 (ev_hit hN47 rfl) h9) ?_
   refine st_step rfl (fun _ h9 => op_load1 (v := kv) one90 (ev_hit hN47 rfl) (hx.cell rfl) h9) ?_
   refine st_step rfl (fun _ h9 => op_move (ev_base hN47 rfl s47_1) h9) ?_
   refine st_step rfl (fun _ h9 => op_move (ev_base hN47 rfl s47_8) h9) ?_
   refine st_step rfl (fun _ h9 => op_nil (ev_hit hN47 rfl) h9) ?_
   refine st_step rfl (fun _ h9 => op_field fld115_0 (ev_hit hN47 rfl) h9) ?_
   refine st_step rfl (fun _ h9 => op_load1 (v := (cutS 2 bv 1)) one48 (ev_hit hN47 rfl) (hxb.cell rfl) h9) ?_
   refine st_index_rd slt48 (ev_hit hN47 rfl) hcv53.rdw rfl (by omega) (by omega) ?_
   intro b58 o59 h0b58 h1b58 hc60
   refine st_step rfl (fun _ h9 => op_field fld51_0 (ev_hit hN47 rfl) h9) ?_
   refine st_step rfl (fun _ h9 => op_load1 (v := ((Db.drop 1).getD 0 default).1) one27 (ev_hit hN47 rfl) (hc60 0 (((Db.drop 1).getD 0 default).1) (by decide) ((el_pI (i := 0) (by omega) (by first | omega | (simp only [List.length_drop, List.length_take]; omega))) 0 (((Db.drop 1).getD 0 default).1) rfl)) h9) ?_
   refine st_index_own (i := i) slt90 (ev_hit hN47 rfl) ok (ev_hit hN47 rfl) (by omega) (by omega) ?_
   intro b61 o62 lo_b61 hA63
   have hA63 : AtV kv (i) b61 o62 := by simpa using hA63
   refine st_nil ?_
   refine from_seq (tl := [_]) (by decide) (by kernel_rfl) rfl ?_
   have hP67 := ok
   refine op_store_own (vs := [((Db.drop 1).getD 0 default).1]) size27 (ev_hit hN47 rfl) (ev_hit hN47 rfl) (own_cl (show Own _ _ _ _ ((Db.drop 1).getD 0 default).1 ((Db.drop 1).getD 0 default).2.1.length (((Db.drop 1).getD 0 default).2.1.map u8v) from kbs (pk ((Db.drop 1).getD 0 default)) (List.mem_map.2 ⟨((Db.drop 1).getD 0 default), (List.mem_of_mem_drop (getD_mem (by first | omega | (simp only [List.length_drop, List.length_take]; omega)))), rfl⟩))) rfl (by simp only [List.all_cons, List.all_nil, Bool.true_and, Bool.and_true, (own_one (show Own _ _ _ _ ((Db.drop 1).getD 0 default).1 ((Db.drop 1).getD 0 default).2.1.length (((Db.drop 1).getD 0 default).2.1.map u8v) from kbs (pk ((Db.drop 1).getD 0 default)) (List.mem_map.2 ⟨((Db.drop 1).getD 0 default), (List.mem_of_mem_drop (getD_mem (by first | omega | (simp only [List.length_drop, List.length_take]; omega)))), rfl⟩)))]; try rfl) hP67 hA63 (by rw [hP67.1]; simp only [List.length_cons, List.length_nil]; omega) ?_
   intro w65 hO68 E66
   have z_w65 := E66.size
   have hx := hx.keepO hP67 E66 (by decide)
   have oc := oc.keepT hP67 E66 (by decide)
   have ks := all9 ks fun _ h => h.keepT hP67 E66 (by decide)
   have kas := all9 kas fun _ h => h.keepT hP67 E66 (by decide)
   have kbs := all9 kbs fun _ h => h.keepT hP67 E66 (by decide)
   have hr := hr.keepG (Gr.of E66) djkG.symm (NoK.ofOwn hP67 (by decide))
   have hO39 := hO39.keepT hP67 E66 (by decide)
   have hxa := hxa.keepO hP67 E66 (by decide)
   have hxb := hxb.keepO hP67 E66 (by decide)
   have hcv53 := hcv53.keepT hP67 E66 (by decide)
   have hb := hb.stepL E66 (fun k _ h => hNd.wk k h)
   have hO68 : Own w65 0 27 1 kv K.length (((K.set i (pk ((Db.drop 1).getD 0 default)))).flatMap cK) := by exact hO68.cast rfl (set_K (d := pk ((Db.drop 1).getD 0 default)) (by omega))
   refine reg_nil ?_
   refine hK22 _ _ (seq_any fun K70 hK70 => one_reg (op_assign rfl (reg_nil (hK70 _ _ (wp_ret ?_)))))
   refine ret1 rfl hd47 (ev_hit hN47 rfl) ⟨_, rfl, ?_⟩
   have hT9 := mkNode (κ := kI) (K := (K.set i (pk ((Db.drop 1).getD 0 default)))) hx (hO68.cast (by simp) rfl) oc (kks_set ks (kbs _ (drop_key (by omega)))) (kks_set hNd.kr (hB.kr _ (drop_key (by omega)))) (Kids.back2 hr hPc (by omega) (mkLeaf (κ := kI) (D := (Da ++ [Db.getD 0 default])) hxa (hO39.cast (n' := (Da ++ [Db.getD 0 default]).length) (cs' := (Da ++ [Db.getD 0 default]).flatMap cI) (by simp) (by simp [cI])) (ks_snoc kas (kbs _ (ks_mem (D := Db) (i := 0) (by omega)))) (kr_snoc hA.kr (hB.kr _ (ks_mem (D := Db) (i := 0) (by omega)))) rfl) (mkLeaf (κ := kI) (D := (Db.drop 1)) hxb hcv53 (ks_sub kbs (fun _ h => List.mem_of_mem_drop h)) (ks_sub hB.kr (fun _ h => List.mem_of_mem_drop h)) rfl) (fun j h1 h2 => h1.elim (fun e1 => h2.elim (fun e2 => hab (e1.symm.trans e2)) (fun q => bx_own_ne hxa hcv53 (by decide) (e1 ▸ q))) (fun q => h2.elim (fun e2 => bx_own_ne hxb (hO39.cast (n' := (Da ++ [Db.getD 0 default]).length) (cs' := (Da ++ [Db.getD 0 default]).flatMap cI) (by simp) (by simp [cI])) (by decide) (e2 ▸ q)) (fun q2 => dj55 j q q2))) (fun j h1 h2 => h1.elim (fun e1 => djpaG (e1 ▸ h2)) (fun q => dj43.symm j q h2)) (fun j h1 h2 => h1.elim (fun e1 => djpbG (e1 ▸ h2)) (fun q => dj54.symm j q h2))) (fun h9 => h9.elim (fun h8 => h8.elim (fun e => hpa e) (fun q => bx_own_ne hx (hO39.cast (n' := (Da ++ [Db.getD 0 default]).length) (cs' := (Da ++ [Db.getD 0 default]).flatMap cI) (by simp) (by simp [cI])) (by decide) q)) (fun h9 => h9.elim (fun h8 => h8.elim (fun e => hpb e) (fun q => bx_own_ne hx hcv53 (by decide) q)) (fun h => djpG h))) (fun j hj h9 => h9.elim (fun h8 => h8.elim (fun e => bx_own_ne hxa hO68 (by decide) (e ▸ hj)) (fun q => own_own_dj hO68 (hO39.cast (n' := (Da ++ [Db.getD 0 default]).length) (cs' := (Da ++ [Db.getD 0 default]).flatMap cI) (by simp) (by simp [cI])) (by decide) j hj q)) (fun h9 => h9.elim (fun h8 => h8.elim (fun e => bx_own_ne hxb hO68 (by decide) (e ▸ hj)) (fun q => own_own_dj hO68 hcv53 (by decide) j hj q)) (fun h => djkG j hj h))) (fun j hj h9 => h9.elim (fun h8 => h8.elim (fun e => bx_own_ne hxa oc (by decide) (e ▸ hj)) (fun q => own_own_dj oc (hO39.cast (n' := (Da ++ [Db.getD 0 default]).length) (cs' := (Da ++ [Db.getD 0 default]).flatMap cI) (by simp) (by simp [cI])) (by decide) j hj q)) (fun h9 => h9.elim (fun h8 => h8.elim (fun e => bx_own_ne hxb oc (by decide) (e ▸ hj)) (fun q => own_own_dj oc hcv53 (by decide) j hj q)) (fun h => djcG j hj h)))
   rw [lend_LL ha hb9 (by omega)]
   exact ⟨hb, rfl, _, hT9, (newF_in (nodeW_in (fun _ => hNd.wp) (fun k _ h => hNd.wk k h) (fun k _ h => hNd.wc k h) (fun j hj h9 => h9.elim (leafW_in (fun _ => hNd.wg _ (hfs _ hA.wp)) (inF_step (n := w.heap.size) hm40 (by omega) (fun k _ h => hNd.wg k (hfs k (hA.wv k h)))) j hj) (fun h9 => h9.elim (leafW_in (fun _ => hNd.wg _ (hgs _ hB.wp)) (fun k hk h => (fun k _ h => hNd.wg k (hgs k (hB.wv k h))) k hk (ob.cut_ob.symm.trans h)) j hj) (fun q => hNd.wg j (hGs j q))))))⟩

theorem lendLR {i p : Nat} {R W G f g G0 : Nat → Prop} {kv cv : Value} {K : List DK} {P : List Nat} {w : World} (hNd : NodeR kI R w p kv cv K P G W) (hfg : Dj f g) (hfG : Dj f G0) (hgG : Dj g G0) (hfs : ∀ k, f k → G k) (hgs : ∀ k, g k → G k) (hGs : ∀ k, G0 k → G k) (hPl : P.length = K.length + 1) (hi : i < K.length) (hn : K.length ≤ 7) {cs : List (Tr Int 0)} {av bv : Value} {Da Db : List (DP Int)} (hA : LeafR kI R w (P.getD i default) av Da f) (hB : LeafR kI R w (P.getD (i + 1) default) bv Db g) (hr : KidsR kI R w 0 ((P.eraseIdx i).eraseIdx i) ((cs.eraseIdx i).eraseIdx i) G0) (hPc : P.length = cs.length) (ha : cs[i]? = some ((Da.map Prod.snd : List (Ky × Int)) : Tr Int 0)) (hb9 : cs[i + 1]? = some ((Db.map Prod.snd : List (Ky × Int)) : Tr Int 0)) (hna : Da.length ≤ 7) (hnb : Db.length ≤ 7) (h3 : 3 < Da.length) : Ret Try.prog 120 #[(ptr p 0), (Value.int .i64 ((i : Nat) : Int)), (Value.bool false)] w (fun v' w' => Gr w w' W ∧ v' = .bool true ∧ ∃ W', TreeR kI R w' (0 + 1) p (lendT 0 (K.map Prod.snd) cs i false) W' ∧ NewF w.heap.size W W') := by
 have h0 : 0 ≤ w.heap.size := Nat.zero_le _
 have hx : Bx w p 115 [.slice none 0 0, kv, cv] := hNd.bx
 have ok := hNd.ok
 have oc : Own w 0 69 1 cv P.length (P.flatMap cN) := hNd.oc
 have ks := hNd.ks
 have hi_p := hx.lt
 have djkG : Dj (Bl kv) G0 := hNd.nk.mono hGs
 have djcG : Dj (Bl cv) G0 := hNd.nc.mono hGs
 have djpG : ¬ G0 p := fun q => hNd.np (hGs p q)
 have hxa : Bx w (P.getD i default) 115 [av, .slice none 0 0, .slice none 0 0] := hA.bx
 have oa : Own w 0 51 2 av Da.length (Da.flatMap cI) := hA.op
 have kas := hA.ks
 have hxb : Bx w (P.getD (i + 1) default) 115 [bv, .slice none 0 0, .slice none 0 0] := hB.bx
 have ob : Own w 0 51 2 bv Db.length (Db.flatMap cI) := hB.op
 have kbs := hB.ks
 have hi_a := hxa.lt
 have hi_b := hxb.lt
 have hab : (P.getD i default) ≠ (P.getD (i + 1) default) := fun e => hfg _ hA.wp (e ▸ hB.wp)
 have hpa : p ≠ (P.getD i default) := fun e => hNd.np (e ▸ hfs _ hA.wp)
 have hpb : p ≠ (P.getD (i + 1) default) := fun e => hNd.np (e ▸ hgs _ hB.wp)
 have djab : DJ av bv := fun k h1 h2 => hfg k (hA.wv k h1) (hB.wv k h2)
 have djaG : Dj (Bl av) G0 := fun k h => hfG k (hA.wv k h)
 have djbG : Dj (Bl bv) G0 := fun k h => hgG k (hB.wv k h)
 have djpaG : ¬ G0 (P.getD i default) := hfG _ hA.wp
 have djpbG : ¬ G0 (P.getD (i + 1) default) := hgG _ hB.wp
 obtain ⟨ca, hca1, hca2, hca3⟩ := oa.cap
 have hb := Gr.refl w W
 refine enter (N := 254) Try.func120 rfl rfl (by simp) fun a0 hN hd hA => ?_
 have s0 : a0.tmps.getD 0 undef = (ptr p 0) := hA 0 (by simp)
 have s1 : a0.tmps.getD 1 undef = (Value.int .i64 ((i : Nat) : Int)) := hA 1 (by simp)
 have s2 : a0.tmps.getD 2 undef = (Value.bool false) := hA 2 (by simp)
 clear hA
 refine seq_any fun K4 hK4 => one_reg (op_assign rfl (reg_nil (hK4 _ _ (seq_any fun K5 hK5 => reg_still mixed (by kernel_rfl) ?_))))
 intro w11 E6
 have z_w11 := E6.size
 have hx := hx.keep0 E6
 have ok := ok.keep0 E6
 have oc := oc.keep0 E6
 have ks := all9 ks fun _ h => h.keep0 E6
 have hxa := hxa.keep0 E6
 have hxb := hxb.keep0 E6
 have oa := oa.keep0 E6
 have ob := ob.keep0 E6
 have kas := all9 kas fun _ h => h.keep0 E6
 have kbs := all9 kbs fun _ h => h.keep0 E6
 have hr := hr.kz E6
 have hb := hb.step0 E6
 refine st_step rfl (fun _ h9 => op_move (ev_base hN rfl s0) h9) ?_
 refine st_step rfl (fun _ h9 => op_nil (ev_hit hN rfl) h9) ?_
 refine st_step rfl (fun _ h9 => op_field fld115_2 (ev_hit hN rfl) h9) ?_
 refine st_step rfl (fun _ h9 => op_load1 (v := cv) one113 (ev_hit hN rfl) (hx.cell rfl) h9) ?_
 refine st_step rfl (fun _ h9 => op_move (ev_base hN rfl s1) h9) ?_
 refine st_index_rd slt113 (ev_hit hN rfl) oc.rdw (ev_hit hN rfl) (by omega) (by omega) ?_
 intro b12 o13 h0b12 h1b12 hc14
 refine st_step rfl (fun _ h9 => op_load1 (v := (ptr (P.getD i default) 0)) one69 (ev_hit hN rfl) (by have := hc14 0 (ptr (P.getD i default) 0) (by decide) (el_pn (i := i) (by omega) (by first | omega | (simp only [List.length_drop, List.length_take]; omega))); simpa using this) h9) ?_
 refine st_step rfl (fun _ h9 => op_move (ev_base hN rfl s0) h9) ?_
 refine st_step rfl (fun _ h9 => op_nil (ev_hit hN rfl) h9) ?_
 refine st_step rfl (fun _ h9 => op_field fld115_2 (ev_hit hN rfl) h9) ?_
 refine st_step rfl (fun _ h9 => op_load1 (v := cv) one113 (ev_hit hN rfl) (hx.cell rfl) h9) ?_
 refine st_step rfl (fun _ h9 => op_move (ev_base hN rfl s1) h9) ?_
 refine st_step rfl (fun _ h9 => op_add (ev_hit hN rfl) rfl (add64 (by omega)) h9) ?_
 refine st_index_rd slt113 (ev_hit hN rfl) oc.rdw (ev_hit hN rfl) (by omega) (by omega) ?_
 intro b15 o16 h0b15 h1b15 hc17
 refine st_step rfl (fun _ h9 => op_load1 (v := (ptr (P.getD (i + 1) default) 0)) one69 (ev_hit hN rfl) (by have := hc17 0 (ptr (P.getD (i + 1) default) 0) (by decide) (el_pn (i := (i + 1)) (by omega) (by first | omega | (simp only [List.length_drop, List.length_take]; omega))); simpa using this) h9) ?_
 refine st_step rfl (fun _ h9 => op_assign (ev_hit hN rfl) h9) ?_
 refine st_step rfl (fun _ h9 => op_assign (ev_hit hN rfl) h9) ?_
 refine st_nil ?_
 refine hK5 _ _ (seq_any fun K18 hK18 => one_reg (op_move (ev_hit hN rfl) (op_assign (ev_hit hN rfl) (reg_nil (hK18 _ _ ?_)))))
 refine seq_any fun K19 hK19 => seq_any fun K20 hK20 => one_reg (op_move (ev_base hN rfl s2) (reg_nil (hK20 _ _ (wp_cond_false (ev_hit hN rfl) ?_))))
 refine wp_skip (hK19 _ _ (seq_any fun K21 hK21 => seq_any fun K22 hK22 => one_reg (op_move (ev_hit hN rfl) (op_fn (vs := [(ptr (P.getD i default) 0)]) ok52 ⟨(ev_hit hN rfl), trivial⟩ (Ret.flip (sizeLI hxa oa)) ?_))))
 rintro _ _ ⟨rfl, rfl⟩
 refine op_leq (ev_hit hN rfl) rfl (fun c32 => ?_) (fun c32 => ?_)
 ·
  exfalso; omega
 ·
  refine reg_nil (hK22 _ _ (wp_cond_false (ev_hit hN rfl) (wp_skip (hK21 _ _ (seq_any fun K23 hK23 => wp_block ?_)))))
  refine seq_any fun K24 hK24 => one_reg (op_move (ev_hit hN rfl) (op_fn (vs := [(ptr (P.getD i default) 0)]) ok81 ⟨(ev_hit hN rfl), trivial⟩ (Ret.flip (leafLI hxa oa)) ?_))
  rintro _ _ ⟨rfl, rfl⟩
  refine op_move (ev_hit hN rfl) (g_true (j := 2) (dj := 107) (b := true) rfl rfl rfl (ev_hit hN rfl) (op_move (ev_base hN rfl s2) (op_pick_t (ev_hit hN rfl) (ev_hit hN rfl) ?_)))
  refine op_assign (ev_hit hN rfl) ?_
  refine reg_nil (hK24 _ _ (wp_cond_false (ev_hit hN rfl) (seq_any fun K25 hK25 => one_reg (op_move (ev_hit hN rfl) (op_fn (vs := [(ptr (P.getD i default) 0)]) ok81 ⟨(ev_hit hN rfl), trivial⟩ (Ret.flip (leafLI hxa oa)) ?_)))))
  rintro _ _ ⟨rfl, rfl⟩
  refine op_assign (ev_hit hN rfl) (reg_nil (hK25 _ _ (wp_cond_true (ev_hit hN rfl) ?_)))
  refine seq_any fun K26 hK26 => one_reg (op_move (ev_hit hN rfl) (op_nil (ev_hit hN rfl) (op_field fld115_0 (ev_hit hN rfl) (op_load1 (v := av) one48 (ev_hit hN rfl) (hxa.cell rfl) (op_len_rd Try.underlying48 (ev_hit hN rfl) oa.rdw ?_)))))
  refine op_sub (r := ((Da.length - 1 : Nat) : Int)) (ev_hit hN rfl) rfl ((sub64 (by omega)).trans (by omega)) ?_
  refine op_assign (ev_hit hN rfl) (reg_nil (hK26 _ _ (seq_any fun K28 hK28 => ?_)))
  obtain ⟨b29, o30, _, hAt31⟩ := oa.atV (i := (Da.length - 1)) (by omega)
  refine reg_split (hd := [_, _, _, _, _, _, _, _, _, _, _, _, _, _, _, _, _, _, _, _, _, _, _, _]) (tl := _) 24 mixed (by kernel_rfl) rfl rfl ?_
  refine any_envk (φ := phiV [(fun uz => uz = (ptr (P.getD i default) 0)), (fun uz => uz = (ptr (P.getD (i + 1) default) 0)), (fun uz => uz = (ptr (P.getD i default) 0)), (fun uz => uz = (ptr (P.getD i default) 0)), (fun uz => uz = (ptr (P.getD i default) 0)), (fun uz => uz = av), (fun uz => uz = (Value.int .i64 ((Da.length - 1 : Nat) : Int))), (fun uz => uz = (hiV av (Da.length - 1))), (fun uz => uz = (ptr (P.getD (i + 1) default) 0)), (fun uz => uz = (ptr (P.getD (i + 1) default) 0)), (fun uz => uz = (ptr (P.getD (i + 1) default) 0)), (fun uz => uz = bv), (fun uz => uz = (ptr (P.getD i default) 0)), (fun uz => uz = (ptr (P.getD i default) 0)), (fun uz => uz = (ptr (P.getD i default) 0)), (fun uz => uz = av), (fun uz => uz = (Value.int .i64 ((Da.length - 1 : Nat) : Int))), (fun uz => uz = (ptr b29 o30)), (fun uz => uz = (Value.agg #[(Da.getD (Da.length - 1) default).1, (Value.int .i64 (Da.getD (Da.length - 1) default).2.2)])), (fun _ => True), (fun _ => True), (fun uz => uz = (ptr (P.getD i default) 0)), (fun uz => uz = (ptr (P.getD i default) 0)), (fun _ => True)]) (G := fun c9 w' => c9 ≤ 2 → (Own w' 0 51 2 av Da.length (Da.flatMap cI) ∧ Bx w' (P.getD i default) 115 [av, (Value.slice none 0 0), (Value.slice none 0 0)] ∧ Bx w' (P.getD (i + 1) default) 115 [bv, (Value.slice none 0 0), (Value.slice none 0 0)])) [19, 20, 23] (by kernel_rfl) (by kernel_rfl) (by kernel_rfl) (by kernel_rfl) hN (fun _ w1 w2 E h hc9 => by have h := h hc9; obtain ⟨h0, h1, h2⟩ := h; exact ⟨h0.keep0 E, h1.keep0 E, h2.keep0 E⟩) (fun _ => ⟨oa, hxa, hxb⟩) (ObKs.cons ?_ (ObKs.cons ?_ (ObKs.cons ?_ (ObKs.cons ?_ (ObKs.cons ?_ (ObKs.cons ?_ (ObKs.cons ?_ (ObKs.cons ?_ (ObKs.cons ?_ (ObKs.cons ?_ (ObKs.cons ?_ (ObKs.cons ?_ (ObKs.cons ?_ (ObKs.cons ?_ (ObKs.cons ?_ (ObKs.cons ?_ (ObKs.cons ?_ (ObKs.cons ?_ (ObKs.cons ?_ (ObKs.pass rfl (ObKs.pass rfl (ObKs.cons ?_ (ObKs.cons ?_ (ObKs.pass rfl (ObKs.nil))))))))))))))))))))))))) (by simp only [putsL_defers]) ?_
  ·
   intro eA aA wA hNA hckA hGA hbsA hdpA
   have qA_7 := (hbsA 7 rfl).trans (sl_hit hN rfl)
   refine op_move (ev_base hNA rfl qA_7) ?_
   exact obK_end rfl rfl rfl
  ·
   intro eA aA wA hNA hckA hGA hbsA hdpA
   have qA_8 := (hbsA 8 rfl).trans (sl_hit hN rfl)
   refine op_move (ev_base hNA rfl qA_8) ?_
   exact obK_end rfl rfl rfl
  ·
   intro eA aA wA hNA hckA hGA hbsA hdpA
   have qA_7 := (hbsA 7 rfl).trans (sl_hit hN rfl)
   refine op_move (ev_base hNA rfl qA_7) ?_
   exact obK_end rfl rfl rfl
  ·
   intro eA aA wA hNA hckA hGA hbsA hdpA
   have qA_157 : Sl aA 157 (ptr (P.getD i default) 0) := (hdpA 2 _ 157 (by kernel_rfl) rfl rfl).2 rfl
   refine op_nil (ev_base hNA rfl qA_157) ?_
   exact obK_end rfl rfl rfl
  ·
   intro eA aA wA hNA hckA hGA hbsA hdpA
   have qA_158 : Sl aA 158 (ptr (P.getD i default) 0) := (hdpA 3 _ 158 (by kernel_rfl) rfl rfl).2 rfl
   refine op_field fld115_0 (ev_base hNA rfl qA_158) ?_
   exact obK_end rfl rfl rfl
  ·
   intro eA aA wA hNA hckA hGA hbsA hdpA
   have qA_159 : Sl aA 159 (ptr (P.getD i default) 0) := (hdpA 4 _ 159 (by kernel_rfl) rfl rfl).2 rfl
   have hGA := hGA (hckA 2 23 rfl (by kernel_rfl))
   obtain ⟨oa, hxa, hxb⟩ := hGA
   refine op_load1 (v := av) one48 (ev_base hNA rfl qA_159) (hxa.cell rfl) ?_
   exact obK_end rfl rfl rfl
  ·
   intro eA aA wA hNA hckA hGA hbsA hdpA
   have qA_10 := (hbsA 10 rfl).trans (sl_hit hN rfl)
   refine op_move (ev_base hNA rfl qA_10) ?_
   exact obK_end rfl rfl rfl
  ·
   intro eA aA wA hNA hckA hGA hbsA hdpA
   have qA_160 : Sl aA 160 av := (hdpA 5 _ 160 (by kernel_rfl) rfl rfl).2 rfl
   have qA_161 : Sl aA 161 (Value.int .i64 ((Da.length - 1 : Nat) : Int)) := (hdpA 6 _ 161 (by kernel_rfl) rfl rfl).2 rfl
   refine op_slice_hiC (m := (Da.length - 1)) slt48 (ev_base hNA rfl qA_160) hca3 (ev_base hNA rfl qA_161) (by omega) (by omega) ?_
   exact obK_end rfl rfl rfl
  ·
   intro eA aA wA hNA hckA hGA hbsA hdpA
   have qA_8 := (hbsA 8 rfl).trans (sl_hit hN rfl)
   refine op_move (ev_base hNA rfl qA_8) ?_
   exact obK_end rfl rfl rfl
  ·
   intro eA aA wA hNA hckA hGA hbsA hdpA
   have qA_163 : Sl aA 163 (ptr (P.getD (i + 1) default) 0) := (hdpA 8 _ 163 (by kernel_rfl) rfl rfl).2 rfl
   refine op_nil (ev_base hNA rfl qA_163) ?_
   exact obK_end rfl rfl rfl
  ·
   intro eA aA wA hNA hckA hGA hbsA hdpA
   have qA_164 : Sl aA 164 (ptr (P.getD (i + 1) default) 0) := (hdpA 9 _ 164 (by kernel_rfl) rfl rfl).2 rfl
   refine op_field fld115_0 (ev_base hNA rfl qA_164) ?_
   exact obK_end rfl rfl rfl
  ·
   intro eA aA wA hNA hckA hGA hbsA hdpA
   have qA_165 : Sl aA 165 (ptr (P.getD (i + 1) default) 0) := (hdpA 10 _ 165 (by kernel_rfl) rfl rfl).2 rfl
   have hGA := hGA (hckA 2 23 rfl (by kernel_rfl))
   obtain ⟨oa, hxa, hxb⟩ := hGA
   refine op_load1 (v := bv) one48 (ev_base hNA rfl qA_165) (hxb.cell rfl) ?_
   exact obK_end rfl rfl rfl
  ·
   intro eA aA wA hNA hckA hGA hbsA hdpA
   have qA_7 := (hbsA 7 rfl).trans (sl_hit hN rfl)
   refine op_move (ev_base hNA rfl qA_7) ?_
   exact obK_end rfl rfl rfl
  ·
   intro eA aA wA hNA hckA hGA hbsA hdpA
   have qA_167 : Sl aA 167 (ptr (P.getD i default) 0) := (hdpA 12 _ 167 (by kernel_rfl) rfl rfl).2 rfl
   refine op_nil (ev_base hNA rfl qA_167) ?_
   exact obK_end rfl rfl rfl
  ·
   intro eA aA wA hNA hckA hGA hbsA hdpA
   have qA_168 : Sl aA 168 (ptr (P.getD i default) 0) := (hdpA 13 _ 168 (by kernel_rfl) rfl rfl).2 rfl
   refine op_field fld115_0 (ev_base hNA rfl qA_168) ?_
   exact obK_end rfl rfl rfl
  ·
   intro eA aA wA hNA hckA hGA hbsA hdpA
   have qA_169 : Sl aA 169 (ptr (P.getD i default) 0) := (hdpA 14 _ 169 (by kernel_rfl) rfl rfl).2 rfl
   have hGA := hGA (hckA 2 23 rfl (by kernel_rfl))
   obtain ⟨oa, hxa, hxb⟩ := hGA
   refine op_load1 (v := av) one48 (ev_base hNA rfl qA_169) (hxa.cell rfl) ?_
   exact obK_end rfl rfl rfl
  ·
   intro eA aA wA hNA hckA hGA hbsA hdpA
   have qA_10 := (hbsA 10 rfl).trans (sl_hit hN rfl)
   refine op_move (ev_base hNA rfl qA_10) ?_
   exact obK_end rfl rfl rfl
  ·
   intro eA aA wA hNA hckA hGA hbsA hdpA
   have qA_170 : Sl aA 170 av := (hdpA 15 _ 170 (by kernel_rfl) rfl rfl).2 rfl
   have qA_171 : Sl aA 171 (Value.int .i64 ((Da.length - 1 : Nat) : Int)) := (hdpA 16 _ 171 (by kernel_rfl) rfl rfl).2 rfl
   refine op_index_at (i := (Da.length - 1)) slt48 (ev_base hNA rfl qA_170) oa (ev_base hNA rfl qA_171) (by omega) (by omega) hAt31 ?_
   exact obK_end rfl rfl rfl
  ·
   intro eA aA wA hNA hckA hGA hbsA hdpA
   have qA_172 : Sl aA 172 (ptr b29 o30) := (hdpA 17 _ 172 (by kernel_rfl) rfl rfl).2 rfl
   have hGA := hGA (hckA 2 23 rfl (by kernel_rfl))
   obtain ⟨oa, hxa, hxb⟩ := hGA
   refine op_loadA (cs := [(Da.getD (Da.length - 1) default).1, (Value.int .i64 (Da.getD (Da.length - 1) default).2.2)]) agg51 rfl (ev_base hNA rfl qA_172) (fun j u hu => oa.cellAt hAt31 j u (el_pI (e := (((Da.length - 1) : Nat) : Int)) (i := (Da.length - 1)) rfl (by omega) j u hu)) ?_
   exact obK_end rfl rfl rfl
  ·
   intro eA aA wA hNA hckA hGA hbsA hdpA
   have qA_155 : Sl aA 155 (ptr (P.getD i default) 0) := (hdpA 0 _ 155 (by kernel_rfl) rfl rfl).2 rfl
   refine op_nil (ev_base hNA rfl qA_155) ?_
   exact obK_end rfl rfl rfl
  ·
   intro eA aA wA hNA hckA hGA hbsA hdpA
   have qA_176 : Sl aA 176 (ptr (P.getD i default) 0) := (hdpA 21 _ 176 (by kernel_rfl) rfl rfl).2 rfl
   refine op_field fld115_0 (ev_base hNA rfl qA_176) ?_
   exact obK_end rfl rfl rfl
  ·
   intro w33 E33 _ a33 hN33 hbs33 hdp33 o_ ho_; obtain rfl := Option.some.inj ho_
   have z_w33 := E33.size
   have hx := hx.keep0 E33
   have ok := ok.keep0 E33
   have oc := oc.keep0 E33
   have ks := all9 ks fun _ h => h.keep0 E33
   have hxa := hxa.keep0 E33
   have hxb := hxb.keep0 E33
   have oa := oa.keep0 E33
   have ob := ob.keep0 E33
   have kas := all9 kas fun _ h => h.keep0 E33
   have kbs := all9 kbs fun _ h => h.keep0 E33
   have hr := hr.kz E33
   have hb := hb.step0 E33
   have q33_173 : Sl a33 173 (Value.agg #[(Da.getD (Da.length - 1) default).1, (Value.int .i64 (Da.getD (Da.length - 1) default).2.2)]) := (hdp33 18 _ 173 (by kernel_rfl) rfl rfl).2 rfl
   refine op_bslice (e := 51) (pv := [(0, (Value.agg #[(Da.getD (Da.length - 1) default).1, (Value.int .i64 (Da.getD (Da.length - 1) default).2.2)]))]) (cs := [(Da.getD (Da.length - 1) default).1, (Value.int .i64 (Da.getD (Da.length - 1) default).2.2)]) ⟨rfl, (ev_base hN33 rfl q33_173), trivial⟩ (by kernel_rfl) ?_
   intro w34 b35 lo_b35 hi_b35 hB37 E36
   have ne_b35_bv : bv.ownBlock ≠ some b35 := fun hh => by have := (ob.lt _ hh).2; omega
   have z_w34 := E36.size
   have hx := hx.keep0 E36
   have ok := ok.keep0 E36
   have oc := oc.keep0 E36
   have ks := all9 ks fun _ h => h.keep0 E36
   have hxa := hxa.keep0 E36
   have hxb := hxb.keep0 E36
   have oa := oa.keep0 E36
   have ob := ob.keep0 E36
   have kas := all9 kas fun _ h => h.keep0 E36
   have kbs := all9 kbs fun _ h => h.keep0 E36
   have hr := hr.kz E36
   have hb := hb.step0 E36
   refine kk_end rfl (by decide) rfl (fun _ => ⟨oa, hxa, hxb⟩) ?_
   intro w38 E38 _ a38 hN38 hbs38 hdp38 o_ ho_; obtain rfl := Option.some.inj ho_
   have z_w38 := E38.size
   have hx := hx.keep0 E38
   have ok := ok.keep0 E38
   have oc := oc.keep0 E38
   have ks := all9 ks fun _ h => h.keep0 E38
   have hxa := hxa.keep0 E38
   have hxb := hxb.keep0 E38
   have oa := oa.keep0 E38
   have ob := ob.keep0 E38
   have kas := all9 kas fun _ h => h.keep0 E38
   have kbs := all9 kbs fun _ h => h.keep0 E38
   have hr := hr.kz E38
   have hB37 := hB37.keep0 E38
   have hb := hb.step0 E38
   have q38_166 : Sl a38 166 bv := (hdp38 11 _ 166 (by kernel_rfl) rfl rfl).2 rfl
   have q38_174 : Sl a38 174 (Value.slice (some ⟨b35, 0, none⟩) 1 1) := (Option.some.inj ((hdp38 19 _ 174 (by kernel_rfl) rfl rfl).1 0 rfl)).symm
   refine op_fn (vs := [bv, (Value.int .i64 0), (Value.slice (some ⟨b35, 0, none⟩) 1 1)]) ok83 ⟨(ev_base hN38 rfl q38_166), ⟨rfl, ⟨(ev_base hN38 rfl q38_174), trivial⟩⟩⟩ (InsI ob hB37 (one_pI kbs (fun _ h => h)) (by simp only [List.all_cons, List.all_nil, Bool.true_and, Bool.and_true, (own_one (show Own _ _ _ _ (Da.getD (Da.length - 1) default).1 (Da.getD (Da.length - 1) default).2.1.length ((Da.getD (Da.length - 1) default).2.1.map u8v) from kas (pk (Da.getD (Da.length - 1) default)) (List.mem_map.2 ⟨(Da.getD (Da.length - 1) default), (getD_mem (by first | omega | (simp only [List.length_drop, List.length_take]; omega))), rfl⟩)))]; try rfl) (by first | omega | (simp only [List.length_insertIdx, List.length_set, List.length_drop, List.length_take]; omega) | (simp; omega)) (by first | omega | (simp only [List.length_insertIdx, List.length_set, List.length_drop, List.length_take]; omega) | (simp; omega)) ne_b35_bv) ?_
   rintro v39 w40 ⟨E41, hO39, hm39⟩
   have dj42 : DJ av v39 := DJ.step hm39 (fun k hk => (oa.lt k hk).2) djab
   have dj43 : Dj G0 (Bl v39) := Dj.step hm39 (fun k hk => (hr.lt k hk).2) djbG.symm
   have hin44 := inF_step (n := w.heap.size) hm39 (by omega) (fun k _ h => hNd.wg k (hgs k (hB.wv k h)))
   have z_w40 := E41.size
   have hx := hx.keepO ob E41 (by decide)
   have ok := ok.keepT ob E41 (by decide)
   have oc := oc.keepT ob E41 (by decide)
   have ks := all9 ks fun _ h => h.keepT ob E41 (by decide)
   have hxa := hxa.keepO ob E41 (by decide)
   have hxb := hxb.keepO ob E41 (by decide)
   have oa := oa.keepD E41 djab
   have kas := all9 kas fun _ h => h.keepT ob E41 (by decide)
   have kbs := all9 kbs fun _ h => h.keepT ob E41 (by decide)
   have hr := hr.keepG (Gr.of E41) djbG.symm (NoK.ofOwn ob (by decide))
   have hb := hb.stepL E41 (fun k _ h => hNd.wg k (hgs k (hB.wv k h)))
   have hO39 : Own w40 0 51 2 v39 (Db.insertIdx 0 ((Da.getD (Da.length - 1) default).1, (Da.getD (Da.length - 1) default).2.1, (Da.getD (Da.length - 1) default).2.2)).length ((Db.insertIdx 0 ((Da.getD (Da.length - 1) default).1, (Da.getD (Da.length - 1) default).2.1, (Da.getD (Da.length - 1) default).2.2)).flatMap cI) := hO39.cast (by rw [List.length_insertIdx, if_pos (by first | omega | (simp only [List.length_insertIdx, List.length_set, List.length_drop, List.length_take]; omega) | (simp; omega))]) (flat_ins cI_len ((Da.getD (Da.length - 1) default).1, (Da.getD (Da.length - 1) default).2.1, (Da.getD (Da.length - 1) default).2.2) (by first | omega | (simp only [List.length_insertIdx, List.length_set, List.length_drop, List.length_take]; omega) | (simp; omega)))
   refine kk_end rfl (by decide) rfl (fun _ => ⟨oa, hxa, hxb⟩) ?_
   intro w45 E45 _ a45 hN45 hbs45 hdp45 o_ ho_; obtain rfl := Option.some.inj ho_
   have z_w45 := E45.size
   have hx := hx.keep0 E45
   have ok := ok.keep0 E45
   have oc := oc.keep0 E45
   have ks := all9 ks fun _ h => h.keep0 E45
   have hxa := hxa.keep0 E45
   have hxb := hxb.keep0 E45
   have oa := oa.keep0 E45
   have kas := all9 kas fun _ h => h.keep0 E45
   have kbs := all9 kbs fun _ h => h.keep0 E45
   have hr := hr.kz E45
   have hO39 := hO39.keep0 E45
   have hb := hb.step0 E45
   have q45_177 : Sl a45 177 (ptr (P.getD i default) 0) := (hdp45 22 _ 177 (by kernel_rfl) rfl rfl).2 rfl
   have q45_162 : Sl a45 162 (hiV av (Da.length - 1)) := (hdp45 7 _ 162 (by kernel_rfl) rfl rfl).2 rfl
   have hxa_old := hxa
   refine op_store (vs := [(hiV av (Da.length - 1))]) (cs' := [(hiV av (Da.length - 1)), (Value.slice none 0 0), (Value.slice none 0 0)]) size48 (ev_base hN45 rfl q45_177) (ev_base hN45 rfl q45_162) (own_cl (oa.hiCut (k := (Da.length - 1)) (by omega))) rfl (by simp only [List.all_cons, List.all_nil, Bool.true_and, Bool.and_true, (own_one (oa.hiCut (k := (Da.length - 1)) (by omega)))]; try rfl) hxa (Nat.le_of_ble_eq_true rfl) rfl ?_
   intro w46 hxa E47
   have z_w46 := E47.size
   have hx := hx.keep E47 (by simp only [ne_eq, Option.some.injEq]; omega)
   have ok := ok.keepX hxa_old E47 (by decide)
   have oc := oc.keepX hxa_old E47 (by decide)
   have ks := all9 ks fun _ h => h.keepX hxa_old E47 (by decide)
   have hxb := hxb.keep E47 (by simp only [ne_eq, Option.some.injEq]; omega)
   have oa := oa.keepX hxa_old E47 (by decide)
   have kas := all9 kas fun _ h => h.keepX hxa_old E47 (by decide)
   have kbs := all9 kbs fun _ h => h.keepX hxa_old E47 (by decide)
   have hr := hr.keepG (Gr.of E47) (Dj.one djpaG) (NoK.ofBx hxa_old (by decide))
   have hO39 := hO39.keepX hxa_old E47 (by decide)
   have hb := hb.stepB E47 (hNd.wg _ (hfs _ hA.wp))
   refine kk_end0 rfl (fun h => absurd h (by simp)) ?_
   intro w49 E49 a49 hN49 hd49 hbs49 hph49
   have hd49 := hd49.trans ((by simp only [putsL_defers] : _ = _).trans hd)
   have z_w49 := E49.size
   have hx := hx.keep0 E49
   have ok := ok.keep0 E49
   have oc := oc.keep0 E49
   have ks := all9 ks fun _ h => h.keep0 E49
   have hxb := hxb.keep0 E49
   have oa := oa.keep0 E49
   have kas := all9 kas fun _ h => h.keep0 E49
   have kbs := all9 kbs fun _ h => h.keep0 E49
   have hr := hr.kz E49
   have hO39 := hO39.keep0 E49
   have hxa := hxa.keep0 E49
   have hb := hb.step0 E49
   have s49_0 := (hbs49 0 rfl).trans (sl_base hN rfl s0)
   have s49_1 := (hbs49 1 rfl).trans (sl_base hN rfl s1)
   have s49_8 := (hbs49 8 rfl).trans (sl_hit hN rfl)
   have s49_156 : Sl a49 156 (ptr (P.getD (i + 1) default) 0) := (hph49 1 _ 156 rfl rfl).2 rfl
   have s49_175 : Sl a49 175 v39 := (Option.some.inj ((hph49 20 _ 175 rfl rfl).1 1 rfl)).symm
   refine split_end ?_
   refine from_seq (tl := [_, _, _]) (by decide) (by kernel_rfl) rfl ?_
   refine op_nil (ev_base hN49 rfl s49_156) (op_field fld115_0 (ev_hit hN49 rfl) ?_)
   have hxb_old := hxb
   refine op_store (vs := [v39]) (cs' := [v39, (Value.slice none 0 0), (Value.slice none 0 0)]) size48 (ev_hit hN49 rfl) (ev_base hN49 rfl s49_175) hO39.cl rfl (by simp only [List.all_cons, List.all_nil, Bool.true_and, Bool.and_true, hO39.one]; try rfl) hxb (Nat.le_of_ble_eq_true rfl) rfl ?_
   intro w50 hxb E53
   have z_w50 := E53.size
   have hx := hx.keep E53 (by simp only [ne_eq, Option.some.injEq]; omega)
   have ok := ok.keepX hxb_old E53 (by decide)
   have oc := oc.keepX hxb_old E53 (by decide)
   have ks := all9 ks fun _ h => h.keepX hxb_old E53 (by decide)
   have oa := oa.keepX hxb_old E53 (by decide)
   have kas := all9 kas fun _ h => h.keepX hxb_old E53 (by decide)
   have kbs := all9 kbs fun _ h => h.keepX hxb_old E53 (by decide)
   have hr := hr.keepG (Gr.of E53) (Dj.one djpbG) (NoK.ofBx hxb_old (by decide))
   have hO39 := hO39.keepX hxb_old E53 (by decide)
   have hxa := hxa.keep E53 (by simp only [ne_eq, Option.some.injEq]; omega)
   have hb := hb.stepB E53 (hNd.wg _ (hgs _ hB.wp))
   refine reg_nil (hK28 _ _ ?_)
   have hl_i : (Db.insertIdx 0 ((Da.getD (Da.length - 1) default).1, (Da.getD (Da.length - 1) default).2.1, (Da.getD (Da.length - 1) default).2.2)).length = Db.length + 1 := by rw [List.length_insertIdx, if_pos (Nat.zero_le _)]
   have ks54 : ∀ x9 ∈ ((Db.insertIdx 0 ((Da.getD (Da.length - 1) default).1, (Da.getD (Da.length - 1) default).2.1, (Da.getD (Da.length - 1) default).2.2)).map pk), Own w50 0 5 1 x9.1 x9.2.length (x9.2.map u8v) := (ks_ins kbs (kas _ (ks_mem (i := (Da.length - 1)) (by omega))) (Nat.zero_le _))
   have dj56 : Dj G0 (Bl (hiV av (Da.length - 1))) := fun k hk hg => djaG.symm k hk ((hiV_ob av (Da.length - 1)).symm.trans hg)
   have dj57 : DJ v39 (hiV av (Da.length - 1)) := fun k hk hg => dj42.symm k hk ((hiV_ob av (Da.length - 1)).symm.trans hg)
   have hcv55 : Own w50 0 51 2 (hiV av (Da.length - 1)) (Da.take (Da.length - 1)).length ((Da.take (Da.length - 1)).flatMap cI) := (oa.hiCut (k := (Da.length - 1)) (by omega)).cast (by simp) (flat_take cI_len _ _)
   refine reg_from mixed ?_
   intro w59 E58
   have z_w59 := E58.size
   have hx := hx.keep0 E58
   have ok := ok.keep0 E58
   have oc := oc.keep0 E58
   have ks := all9 ks fun _ h => h.keep0 E58
   have kas := all9 kas fun _ h => h.keep0 E58
   have hr := hr.kz E58
   have hO39 := hO39.keep0 E58
   have hxa := hxa.keep0 E58
   have hxb := hxb.keep0 E58
   have ks54 := all9 ks54 fun _ h => h.keep0 E58
   have hcv55 := hcv55.keep0 E58
   have hb := hb.step0 E58
   refine from_still (m := 13) 13 (hd := [_, _, _, _, _, _, _, _, _, _, _, _, _]) (by kernel_rfl) rfl rfl ?_
   refine st_step rfl (fun _ h9 => op_move (ev_base hN49 rfl s49_0) h9) ?_
   refine st_step rfl (fun _ h9 => op_nil (ev_hit hN49 rfl) h9) ?_
   refine st_step rfl (fun _ h9 => op_field fld115_1 (ev_hit hN49 rfl) h9) ?_
   refine st_step rfl (fun _ h9 => op_load1 (v := kv) one90 (ev_hit hN49 rfl) (hx.cell rfl) h9) ?_
   refine st_step rfl (fun _ h9 => op_move (ev_base hN49 rfl s49_1) h9) ?_
   refine st_step rfl (fun _ h9 => op_move (ev_base hN49 rfl s49_8) h9) ?_
   refine st_step rfl (fun _ h9 => op_nil (ev_hit hN49 rfl) h9) ?_
   refine st_step rfl (fun _ h9 => op_field fld115_0 (ev_hit hN49 rfl) h9) ?_
   refine st_step rfl (fun _ h9 => op_load1 (v := v39) one48 (ev_hit hN49 rfl) (hxb.cell rfl) h9) ?_
   refine st_index_rd slt48 (ev_hit hN49 rfl) hO39.rdw rfl (by omega) (by omega) ?_
   intro b60 o61 h0b60 h1b60 hc62
   refine st_step rfl (fun _ h9 => op_field fld51_0 (ev_hit hN49 rfl) h9) ?_
   refine st_step rfl (fun _ h9 => op_load1 (v := ((Db.insertIdx 0 ((Da.getD (Da.length - 1) default).1, (Da.getD (Da.length - 1) default).2.1, (Da.getD (Da.length - 1) default).2.2)).getD 0 default).1) one27 (ev_hit hN49 rfl) (hc62 0 (((Db.insertIdx 0 ((Da.getD (Da.length - 1) default).1, (Da.getD (Da.length - 1) default).2.1, (Da.getD (Da.length - 1) default).2.2)).getD 0 default).1) (by decide) ((el_pI (i := 0) (by omega) (by first | omega | (simp only [List.length_drop, List.length_take]; omega))) 0 (((Db.insertIdx 0 ((Da.getD (Da.length - 1) default).1, (Da.getD (Da.length - 1) default).2.1, (Da.getD (Da.length - 1) default).2.2)).getD 0 default).1) rfl)) h9) ?_
   refine st_index_own (i := i) slt90 (ev_hit hN49 rfl) ok (ev_hit hN49 rfl) (by omega) (by omega) ?_
   intro b63 o65 lo_b63 hA66
   have hA66 : AtV kv (i) b63 o65 := by simpa using hA66
   refine st_nil ?_
   refine from_seq (tl := [_]) (by decide) (by kernel_rfl) rfl ?_
   have hP70 := ok
   refine op_store_own (vs := [((Db.insertIdx 0 ((Da.getD (Da.length - 1) default).1, (Da.getD (Da.length - 1) default).2.1, (Da.getD (Da.length - 1) default).2.2)).getD 0 default).1]) size27 (ev_hit hN49 rfl) (ev_hit hN49 rfl) (own_cl (show Own _ _ _ _ ((Db.insertIdx 0 ((Da.getD (Da.length - 1) default).1, (Da.getD (Da.length - 1) default).2.1, (Da.getD (Da.length - 1) default).2.2)).getD 0 default).1 ((Db.insertIdx 0 ((Da.getD (Da.length - 1) default).1, (Da.getD (Da.length - 1) default).2.1, (Da.getD (Da.length - 1) default).2.2)).getD 0 default).2.1.length (((Db.insertIdx 0 ((Da.getD (Da.length - 1) default).1, (Da.getD (Da.length - 1) default).2.1, (Da.getD (Da.length - 1) default).2.2)).getD 0 default).2.1.map u8v) from ks54 (pk ((Db.insertIdx 0 ((Da.getD (Da.length - 1) default).1, (Da.getD (Da.length - 1) default).2.1, (Da.getD (Da.length - 1) default).2.2)).getD 0 default)) (List.mem_map.2 ⟨((Db.insertIdx 0 ((Da.getD (Da.length - 1) default).1, (Da.getD (Da.length - 1) default).2.1, (Da.getD (Da.length - 1) default).2.2)).getD 0 default), (getD_mem (by first | omega | (simp only [List.length_drop, List.length_take]; omega))), rfl⟩))) rfl (by simp only [List.all_cons, List.all_nil, Bool.true_and, Bool.and_true, (own_one (show Own _ _ _ _ ((Db.insertIdx 0 ((Da.getD (Da.length - 1) default).1, (Da.getD (Da.length - 1) default).2.1, (Da.getD (Da.length - 1) default).2.2)).getD 0 default).1 ((Db.insertIdx 0 ((Da.getD (Da.length - 1) default).1, (Da.getD (Da.length - 1) default).2.1, (Da.getD (Da.length - 1) default).2.2)).getD 0 default).2.1.length (((Db.insertIdx 0 ((Da.getD (Da.length - 1) default).1, (Da.getD (Da.length - 1) default).2.1, (Da.getD (Da.length - 1) default).2.2)).getD 0 default).2.1.map u8v) from ks54 (pk ((Db.insertIdx 0 ((Da.getD (Da.length - 1) default).1, (Da.getD (Da.length - 1) default).2.1, (Da.getD (Da.length - 1) default).2.2)).getD 0 default)) (List.mem_map.2 ⟨((Db.insertIdx 0 ((Da.getD (Da.length - 1) default).1, (Da.getD (Da.length - 1) default).2.1, (Da.getD (Da.length - 1) default).2.2)).getD 0 default), (getD_mem (by first | omega | (simp only [List.length_drop, List.length_take]; omega))), rfl⟩)))]; try rfl) hP70 hA66 (by rw [hP70.1]; simp only [List.length_cons, List.length_nil]; omega) ?_
   intro w67 hO71 E68
   have z_w67 := E68.size
   have hx := hx.keepO hP70 E68 (by decide)
   have oc := oc.keepT hP70 E68 (by decide)
   have ks := all9 ks fun _ h => h.keepT hP70 E68 (by decide)
   have kas := all9 kas fun _ h => h.keepT hP70 E68 (by decide)
   have hr := hr.keepG (Gr.of E68) djkG.symm (NoK.ofOwn hP70 (by decide))
   have hO39 := hO39.keepT hP70 E68 (by decide)
   have hxa := hxa.keepO hP70 E68 (by decide)
   have hxb := hxb.keepO hP70 E68 (by decide)
   have ks54 := all9 ks54 fun _ h => h.keepT hP70 E68 (by decide)
   have hcv55 := hcv55.keepT hP70 E68 (by decide)
   have hb := hb.stepL E68 (fun k _ h => hNd.wk k h)
   have hO71 : Own w67 0 27 1 kv K.length (((K.set i (pk ((Db.insertIdx 0 ((Da.getD (Da.length - 1) default).1, (Da.getD (Da.length - 1) default).2.1, (Da.getD (Da.length - 1) default).2.2)).getD 0 default)))).flatMap cK) := by exact hO71.cast rfl (set_K (d := pk ((Db.insertIdx 0 ((Da.getD (Da.length - 1) default).1, (Da.getD (Da.length - 1) default).2.1, (Da.getD (Da.length - 1) default).2.2)).getD 0 default)) (by omega))
   refine reg_nil ?_
   refine hK23 _ _ (seq_any fun K72 hK72 => one_reg (op_assign rfl (reg_nil (hK72 _ _ (wp_ret ?_)))))
   refine ret1 rfl hd49 (ev_hit hN49 rfl) ⟨_, rfl, ?_⟩
   have hT9 := mkNode (κ := kI) (K := (K.set i (pk ((Db.insertIdx 0 ((Da.getD (Da.length - 1) default).1, (Da.getD (Da.length - 1) default).2.1, (Da.getD (Da.length - 1) default).2.2)).getD 0 default)))) hx (hO71.cast (by simp) rfl) oc (kks_set ks (ks54 _ (ks_mem (D := (Db.insertIdx 0 ((Da.getD (Da.length - 1) default).1, (Da.getD (Da.length - 1) default).2.1, (Da.getD (Da.length - 1) default).2.2))) (i := 0) (by omega)))) (kks_set hNd.kr ((kr_ins (d := ((Da.getD (Da.length - 1) default).1, (Da.getD (Da.length - 1) default).2.1, (Da.getD (Da.length - 1) default).2.2)) hB.kr (hA.kr _ (ks_mem (i := (Da.length - 1)) (by omega))) (Nat.zero_le _)) _ (ks_mem (D := (Db.insertIdx 0 ((Da.getD (Da.length - 1) default).1, (Da.getD (Da.length - 1) default).2.1, (Da.getD (Da.length - 1) default).2.2))) (i := 0) (by omega)))) (Kids.back2 hr hPc (by omega) (mkLeaf (κ := kI) (D := (Da.take (Da.length - 1))) hxa hcv55 (ks_sub kas (fun _ h => List.mem_of_mem_take h)) (ks_sub hA.kr (fun _ h => List.mem_of_mem_take h)) rfl) (mkLeaf (κ := kI) (D := (Db.insertIdx 0 ((Da.getD (Da.length - 1) default).1, (Da.getD (Da.length - 1) default).2.1, (Da.getD (Da.length - 1) default).2.2))) hxb hO39 ks54 (kr_ins (d := ((Da.getD (Da.length - 1) default).1, (Da.getD (Da.length - 1) default).2.1, (Da.getD (Da.length - 1) default).2.2)) hB.kr (hA.kr _ (ks_mem (i := (Da.length - 1)) (by omega))) (Nat.zero_le _)) rfl) (fun j h1 h2 => h1.elim (fun e1 => h2.elim (fun e2 => hab (e1.symm.trans e2)) (fun q => bx_own_ne hxa hO39 (by decide) (e1 ▸ q))) (fun q => h2.elim (fun e2 => bx_own_ne hxb hcv55 (by decide) (e2 ▸ q)) (fun q2 => dj57.symm j q q2))) (fun j h1 h2 => h1.elim (fun e1 => djpaG (e1 ▸ h2)) (fun q => dj56.symm j q h2)) (fun j h1 h2 => h1.elim (fun e1 => djpbG (e1 ▸ h2)) (fun q => dj43.symm j q h2))) (fun h9 => h9.elim (fun h8 => h8.elim (fun e => hpa e) (fun q => bx_own_ne hx hcv55 (by decide) q)) (fun h9 => h9.elim (fun h8 => h8.elim (fun e => hpb e) (fun q => bx_own_ne hx hO39 (by decide) q)) (fun h => djpG h))) (fun j hj h9 => h9.elim (fun h8 => h8.elim (fun e => bx_own_ne hxa hO71 (by decide) (e ▸ hj)) (fun q => own_own_dj hO71 hcv55 (by decide) j hj q)) (fun h9 => h9.elim (fun h8 => h8.elim (fun e => bx_own_ne hxb hO71 (by decide) (e ▸ hj)) (fun q => own_own_dj hO71 hO39 (by decide) j hj q)) (fun h => djkG j hj h))) (fun j hj h9 => h9.elim (fun h8 => h8.elim (fun e => bx_own_ne hxa oc (by decide) (e ▸ hj)) (fun q => own_own_dj oc hcv55 (by decide) j hj q)) (fun h9 => h9.elim (fun h8 => h8.elim (fun e => bx_own_ne hxb oc (by decide) (e ▸ hj)) (fun q => own_own_dj oc hO39 (by decide) j hj q)) (fun h => djcG j hj h)))
   rw [lend_LR ha hb9 (by omega)]
   exact ⟨hb, rfl, _, hT9, (newF_in (nodeW_in (fun _ => hNd.wp) (fun k _ h => hNd.wk k h) (fun k _ h => hNd.wc k h) (fun j hj h9 => h9.elim (leafW_in (fun _ => hNd.wg _ (hfs _ hA.wp)) (fun k hk h => (fun k _ h => hNd.wg k (hfs k (hA.wv k h))) k hk ((hiV_ob av (Da.length - 1)).symm.trans h)) j hj) (fun h9 => h9.elim (leafW_in (fun _ => hNd.wg _ (hgs _ hB.wp)) hin44 j hj) (fun q => hNd.wg j (hGs j q))))))⟩

end Go.Proofs.Ytcpfdfejojghbaa
