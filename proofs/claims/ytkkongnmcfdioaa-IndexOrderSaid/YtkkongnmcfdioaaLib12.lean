/- Small laws for walks, the twelfth part: a region whose order is open, with a chain of operations that write one's own list; what is told of a slot may speak of the list as it stands. -/
import Derived.Test.YtkkongnmcfdioaaLib11
namespace Go.Gx
open Go.RowKit
def chv (ch : Chain) (v0 : Value) (c : Nat) (a : Act) : Value := if c = 0 then v0 else a.tmps.getD (ch.slot c) undef
def StepC (v v' : Value) (w1 w2 : World) : Prop := w1.grownBy w2 v.ownBlock ∧ (v'.ownBlock = v.ownBlock ∨ ∀ k, v'.ownBlock = some k → w1.heap.size ≤ k)
section
variable {P : Program} {ol : List Oper} {Q : Exit → Act → World → Prop} {Φ : Nat → Nat → Value → Value → World → Prop} {C : Nat → Value → World → Prop} {ch : Chain} {v0 : Value} {a0 : Act} {N : Nat}
structure RInc (ol : List Oper) (Φ : Nat → Nat → Value → Value → World → Prop) (C : Nat → Value → World → Prop) (ch : Chain) (v0 : Value) (a0 : Act) (N : Nat) (w0 : World) (listed : Array Bool) (c : Nat) (a : Act) (w : World) : Prop where
  size : a.tmps.size = N
  defers : a.defers = a0.defers
  base : ∀ t, (∀ j o, ol[j]? = some o → listed.getD j true = true → o.dst ≠ some t) → a.tmps.getD t undef = a0.tmps.getD t undef
  phi : ∀ j o d, ol[j]? = some o → listed.getD j true = true → o.dst = some d → Φ j c (chv ch v0 c a) (a.tmps.getD d undef) w
  closed : ∀ j o, ol[j]? = some o → listed.getD j true = true → ∀ e ∈ o.after, Region.binds .any e = true → listed.getD e.on false = true
  lsize : listed.size = ol.length
  cle : c ≤ ch.ops.length
  chain : ∀ m i, ch.ops[m]? = some i → (listed.getD i true = true ↔ m < c)
  chainC : C c (chv ch v0 c a) w
  rel : w0.grownBy w v0.ownBlock
  own : (chv ch v0 c a).ownBlock = v0.ownBlock ∨ ∀ k, (chv ch v0 c a).ownBlock = some k → w0.heap.size ≤ k
def ObNc (P : Program) (ol : List Oper) (Φ : Nat → Nat → Value → Value → World → Prop) (ch : Chain) (v0 : Value) (a0 : Act) (N : Nat) (w0 : World) (i : Nat) (o : Oper) : Prop :=
  ∀ (a : Act) (w : World) (c : Nat) (v : Value), a.tmps.size = N → c ≤ ch.ops.length → w0.grownBy w v0.ownBlock → (∀ k, v.ownBlock = some k → k < w.heap.size) → (v.ownBlock = v0.ownBlock ∨ ∀ k, v.ownBlock = some k → w0.heap.size ≤ k) → (∀ t, safeB ol i t = true → a.tmps.getD t undef = a0.tmps.getD t undef) → (∀ j oj d, depB ol i j = true → ol[j]? = some oj → oj.dst = some d → Φ j c v (a.tmps.getD d undef) w) →
    wpList P ol.toArray (fun e a' w' => e = .normal ∧ (∃ d u, o.dst = some d ∧ a' = putsL a [(d, u)] ∧ Φ i c v u w') ∧ w.grownBy w' none) [o] (putsL a []) w
def ObCc (P : Program) (ol : List Oper) (Φ : Nat → Nat → Value → Value → World → Prop) (C : Nat → Value → World → Prop) (ch : Chain) (v0 : Value) (a0 : Act) (N : Nat) (w0 : World) (c i : Nat) (o : Oper) : Prop :=
  ∀ (a : Act) (w : World) (v : Value), a.tmps.size = N → w0.grownBy w v0.ownBlock → (c = 0 → v = v0) → (∀ t, safeB ol i t = true → a.tmps.getD t undef = a0.tmps.getD t undef) → (∀ j oj d, depB ol i j = true → ol[j]? = some oj → oj.dst = some d → Φ j c v (a.tmps.getD d undef) w) → C c v w →
    wpList P ol.toArray (fun e a' w' => e = .normal ∧ ∃ d u, o.dst = some d ∧ ch.slot (c + 1) = d ∧ a' = putsL a [(d, u)] ∧ Φ i (c + 1) u u w' ∧ C (c + 1) u w' ∧ StepC v u w w') [o] (putsL a []) w
theorem region_chain_steps (hlex : lexB' ol = true) (hdn : dstNB ol N = true) (hdst : dstsB ol = true) (hch : ch.okB ol = true) (w0 : World)
    (hΦ0 : ∀ j c v u w1 w2, w1.grownBy w2 none → Φ j c v u w1 → Φ j c v u w2) (hΦ1 : ∀ j c v v' u w1 w2, c < ch.ops.length → StepC v v' w1 w2 → Φ j c v u w1 → Φ j (c + 1) v' u w2)
    (hC : ∀ c v w1 w2, w1.grownBy w2 none → C c v w1 → C c v w2) (hCl : ∀ c v w, C c v w → ∀ k, v.ownBlock = some k → k < w.heap.size)
    (obN : ∀ i o, ol[i]? = some o → ch.has i = false → ObNc P ol Φ ch v0 a0 N w0 i o) (obC : ∀ c i o, ch.ops[c]? = some i → ol[i]? = some o → ObCc P ol Φ C ch v0 a0 N w0 c i o)
    (fin : ∀ a w, RInc ol Φ C ch v0 a0 N w0 (Array.replicate ol.length true) ch.ops.length a w → Q .normal a w) :
    ∀ (fuel : Nat) (listed : Array Bool) (c : Nat) (a : Act) (w : World), RInc ol Φ C ch v0 a0 N w0 listed c a w → (List.range ol.length).countP (fun i => !listed.getD i true) ≤ fuel → wpAny P .any ol.toArray Q fuel listed a w := by
  have hch' := hch
  simp only [Chain.okB, Bool.and_eq_true] at hch'
  obtain ⟨⟨⟨hc1, hc2⟩, hc3⟩, hc4⟩ := hch'
  have done : ∀ (listed : Array Bool) (c : Nat) (a : Act) (w : World), RInc ol Φ C ch v0 a0 N w0 listed c a w → Region.ready .any ol.toArray listed = [] → Q .normal a w := by
    intro listed c a w I hr
    have hall : ∀ i, i < ol.length → listed.getD i true = true := by
      intro i
      induction i using Nat.strongRecOn with
      | _ i ih =>
        intro hi
        by_cases hq : listed.getD i true = true
        · exact hq
        · exfalso
          have hm : i ∈ Region.ready .any ol.toArray listed := by
            rw [mem_ready]
            refine ⟨by simpa using hq, ol[i], by simp [hi], fun e he hb => ?_⟩
            have h1 := List.all_eq_true.1 hlex i (by simp [hi])
            simp only [List.getElem?_eq_getElem hi, Array.all_eq_true_iff_forall_mem, Bool.or_eq_true, Bool.not_eq_true', Nat.blt_eq] at h1
            have h2 := (h1 e he).resolve_left (by simp [hb])
            exact getD_true_lt (ih e.on h2 (by omega)) (by rw [I.lsize]; omega)
          rw [hr] at hm
          cases hm
    have hl : listed = Array.replicate ol.length true := by
      apply Array.ext
      · simp [I.lsize]
      · intro i h1 h2
        have := hall i (by simpa using h2)
        simp [Array.getD_eq_getD_getElem?, h1] at this
        simp [this]
    have hcc : c = ch.ops.length := by
      rcases Nat.lt_or_ge c ch.ops.length with h | h
      · exfalso
        have h1 := (I.chain c ch.ops[c] (by simp [h])).1 (hall _ (by
          have := List.all_eq_true.1 hc3 ch.ops[c] (List.getElem_mem h)
          simpa [Nat.blt_eq] using this))
        omega
      · exact Nat.le_antisymm I.cle h
    subst hl; subst hcc
    exact fin a w I
  intro fuel
  induction fuel with
  | zero =>
    intro listed c a w I hcnt
    have hr : Region.ready .any ol.toArray listed = [] := by
      rw [List.eq_nil_iff_forall_not_mem]
      intro i hi
      obtain ⟨h1, o, ho, _⟩ := mem_ready.1 hi
      have hlt : i < ol.length := by simpa using (Array.getElem?_eq_some_iff.1 ho).1
      have hz : (List.range ol.length).countP (fun i => !listed.getD i true) = 0 := by omega
      rw [List.countP_eq_zero] at hz
      exact hz i (by simp [hlt]) (by simp [h1])
    exact ⟨hr, done listed c a w I hr⟩
  | succ fuel ih =>
    intro listed c a w I hcnt
    refine ⟨fun hr => done listed c a w I hr, fun i hi => ?_⟩
    obtain ⟨hun, o, ho, hwait⟩ := mem_ready.1 hi
    have ho' : ol[i]? = some o := by simpa using ho
    have hlt : i < ol.length := (List.getElem?_eq_some_iff.1 ho').1
    have hls : i < listed.size := by rw [I.lsize]; exact hlt
    have hcnt' : (List.range ol.length).countP (fun j => !(listed.setIfInBounds i true).getD j true) ≤ fuel := by
      have : (List.range ol.length).countP (fun j => !(listed.setIfInBounds i true).getD j true) < (List.range ol.length).countP (fun j => !listed.getD j true) := by
        refine countP_lt _ _ (fun y hy => ?_) _ i (by simp [hlt]) (by simp [hun]) (by simp [Array.getD_eq_getD_getElem?, hls])
        by_cases hiy : i = y
        · subst hiy; simp [Array.getD_eq_getD_getElem?, hls] at hy
        · rwa [getD_set_ne true hiy] at hy
      omega
    have hbase : ∀ t, safeB ol i t = true → a.tmps.getD t undef = a0.tmps.getD t undef := by
      intro t ht
      refine I.base t fun j oj hj hlj hd => ?_
      have h1 := List.all_eq_true.1 ht oj (List.mem_of_getElem? hj)
      simp only [Bool.or_eq_true, bne_iff_ne, ne_eq, Array.any_eq_true, Bool.and_eq_true, beq_iff_eq] at h1
      rcases h1 with h1 | ⟨q, hq, h1, h2⟩
      · exact h1 hd
      · have := getD_of_false (I.closed j oj hj hlj _ (Array.getElem_mem hq) h2)
        rw [h1, hun] at this
        cases this
    have hdep : ∀ j oj d, depB ol i j = true → ol[j]? = some oj → oj.dst = some d → Φ j c (chv ch v0 c a) (a.tmps.getD d undef) w := by
      intro j oj d hj hoj hd
      obtain ⟨e, he, h1, h2⟩ := depB_spec ho' hj
      exact I.phi j oj d hoj (getD_of_false (by rw [← h1]; exact hwait e he h2)) hd
    have hset : ∀ j, j ≠ i → (listed.setIfInBounds i true).getD j true = listed.getD j true := fun j hj => getD_set_ne true (Ne.symm hj)
    have hseti : (listed.setIfInBounds i true).getD i true = true := by simp [Array.getD_eq_getD_getElem?, hls]
    have hclosed : ∀ j oj, ol[j]? = some oj → (listed.setIfInBounds i true).getD j true = true → ∀ e ∈ oj.after, Region.binds .any e = true → (listed.setIfInBounds i true).getD e.on false = true := by
      intro j oj hoj hlj e he hb
      refine getD_set_true ?_
      by_cases hji : j = i
      · subst hji
        rw [ho'] at hoj; cases hoj
        exact hwait e he hb
      · rw [hset j hji] at hlj
        exact I.closed j oj hoj hlj e he hb
    have hne : ∀ j oj d, ol[j]? = some oj → j ≠ i → o.dst = some d → oj.dst ≠ some d := by
      intro j oj d hoj hji hd hd'
      have hj : j < ol.length := (List.getElem?_eq_some_iff.1 hoj).1
      have h1 := List.all_eq_true.1 (List.all_eq_true.1 hdst i (by simp [hlt])) j (by simp [hj])
      simp only [ho', hoj, Bool.or_eq_true, beq_iff_eq, bne_iff_ne, ne_eq] at h1
      rcases h1 with h1 | h1 | h1
      · exact hji h1.symm
      · exact h1 (by rw [hd, hd'])
      · rw [hd] at h1; cases h1
    -- what is left of the frame, behind a value in slot d
    have hdN : ∀ d, o.dst = some d → d < a.tmps.size := by
      intro d hd
      have h1 := List.all_eq_true.1 hdn o (List.mem_of_getElem? ho')
      simp only [hd, Nat.blt_eq] at h1
      rw [I.size]; exact h1
    have hframe1 : ∀ d v, o.dst = some d → 
        (∀ t, (∀ j oj, ol[j]? = some oj → (listed.setIfInBounds i true).getD j true = true → oj.dst ≠ some t) → (putsL a [(d, v)]).tmps.getD t undef = a0.tmps.getD t undef) := by
      intro d v hd t ht
      have hdt : d ≠ t := fun e => ht i o ho' hseti (by rw [hd, e])
      rw [get_put_ne hdt]
      refine I.base t fun j oj hoj hlj => ?_
      by_cases hji : j = i
      · subst hji; rw [hun] at hlj; cases hlj
      · exact ht j oj hoj (by rw [hset j hji]; exact hlj)
    have hframe2 : ∀ d u c' v' w', o.dst = some d → (∀ j u, Φ j c (chv ch v0 c a) u w → Φ j c' v' u w') → Φ i c' v' u w' →
        (∀ j oj d', ol[j]? = some oj → (listed.setIfInBounds i true).getD j true = true → oj.dst = some d' → Φ j c' v' ((putsL a [(d, u)]).tmps.getD d' undef) w') := by
      intro d u c' v' w' hd hst hv j oj d' hoj hlj hd'
      by_cases hji : j = i
      · subst hji
        rw [ho'] at hoj; cases hoj
        rw [hd] at hd'; cases hd'
        rw [get_put_eq (hdN d hd)]
        exact hv
      · rw [hset j hji] at hlj
        have : d ≠ d' := fun e => hne j oj d hoj hji hd (by rw [hd', e])
        rw [get_put_ne this]
        exact hst j _ (I.phi j oj d' hoj hlj hd')
    by_cases hin : ch.has i = true
    · have hmem : i ∈ ch.ops := by simpa [Chain.has] using hin
      obtain ⟨c0, hc0, hci⟩ := List.getElem_of_mem hmem
      have hci' : ch.ops[c0]? = some i := by simp [hc0, hci]
      have hcc : c0 = c := by
        have h1 : ¬ c0 < c := fun h => by
          have := (I.chain c0 i hci').2 h
          rw [hun] at this; cases this
        rcases Nat.lt_or_ge c c0 with h2 | h2
        · exfalso
          have h3 := List.all_eq_true.1 hc1 c0 (by simp [hc0])
          have hz : (c0 == 0) = false := by simp; omega
          have hp : ch.ops.getD (c0 - 1) 0 = ch.ops[c0 - 1] := by simp [List.getD_eq_getElem?_getD, show c0 - 1 < ch.ops.length by omega]
          have hq : ch.ops.getD c0 0 = i := by simp [List.getD_eq_getElem?_getD, hc0, hci]
          rw [hz, hp, hq, Bool.false_or] at h3
          obtain ⟨e, he, h4, h5⟩ := depB_spec ho' h3
          have h6 := getD_of_false (hwait e he h5)
          rw [h4] at h6
          have := (I.chain (c0 - 1) ch.ops[c0 - 1] (by simp [show c0 - 1 < ch.ops.length by omega])).1 h6
          omega
        · omega
      subst hcc
      have hlt0 : c0 < ch.ops.length := hc0
      refine wp_one (by simpa using ho') (obC c0 i o hci' ho' a w (chv ch v0 c0 a) I.size I.rel (fun h => by subst h; rfl) hbase hdep I.chainC) fun a' w' h => ?_
      obtain ⟨d, u, hd, hsl, rfl, hv, h2, h3⟩ := h
      have hchain : ∀ m i', ch.ops[m]? = some i' → ((listed.setIfInBounds i true).getD i' true = true ↔ m < c0 + 1) := by
        intro m i' hm
        by_cases hii : i' = i
        · subst hii
          have : m = c0 := by
            have hnd : ch.ops.Nodup := of_decide_eq_true hc4
            have hmlt : m < ch.ops.length := (List.getElem?_eq_some_iff.1 hm).1
            exact (List.getElem?_inj hmlt hnd).1 (by rw [hm, hci'])
          exact ⟨fun _ => by omega, fun _ => hseti⟩
        · rw [hset i' hii, I.chain m i' hm]
          refine ⟨fun h => by omega, fun h => ?_⟩
          rcases Nat.lt_or_ge m c0 with h' | h'
          · exact h'
          · have : m = c0 := by omega
            subst this
            rw [hci'] at hm; exact absurd (Option.some.inj hm).symm hii
      have hcv : chv ch v0 (c0 + 1) (putsL a [(d, u)]) = u := by
        simp only [chv, Nat.add_eq_zero_iff, Nat.one_ne_zero, and_false, if_false]
        rw [hsl, get_put_eq (hdN d hd)]
      refine ih _ (c0 + 1) _ w' ⟨by rw [putsL_size, I.size], by rw [putsL_defers, I.defers], hframe1 d u hd, ?_, hclosed, by simp [I.lsize], by omega, hchain, by rw [hcv]; exact h2, ?_, ?_⟩ hcnt'
      · rw [hcv]
        exact hframe2 d u (c0 + 1) u w' hd (fun j u' hu => hΦ1 j c0 _ _ u' w w' hlt0 h3 hu) hv
      · refine ⟨h3.1.os.trans I.rel.os, h3.1.tape.trans I.rel.tape, h3.1.output.trans I.rel.output, Nat.le_trans I.rel.size h3.1.size, fun k hk hr => ?_⟩
        rw [← I.rel.block k hk hr]
        refine h3.1.block k (Nat.lt_of_lt_of_le hk I.rel.size) fun he => ?_
        rcases I.own with ho | ho
        · exact hr (he.trans ho)
        · have := ho k he.symm; omega
      · rw [hcv]
        rcases h3.2 with h4 | h4
        · rw [h4]; exact I.own
        · exact .inr fun k hk => Nat.le_trans I.rel.size (h4 k hk)
    · have hin' : ch.has i = false := by simpa using hin
      refine wp_one (by simpa using ho') (obN i o ho' hin' a w c (chv ch v0 c a) I.size I.cle I.rel (hCl _ _ _ I.chainC) I.own hbase hdep) fun a' w' h => ?_
      obtain ⟨⟨d, u, hd, rfl, hv⟩, hg⟩ := h
      have hcv : chv ch v0 c (putsL a [(d, u)]) = chv ch v0 c a := by
        unfold chv
        split
        · rfl
        · rename_i hc0
          have hsl : d ≠ ch.slot c := by
            intro he
            have h1 := List.all_eq_true.1 hc2 i (by simp [hlt])
            rw [hin', Bool.false_or] at h1
            simp only [ho'] at h1
            have h2 := List.all_eq_true.1 h1 c (by simp; have := I.cle; omega)
            simp only [hd, he, bne_self_eq_false, Bool.false_or, Bool.and_eq_true, Nat.blt_eq] at h2
            obtain ⟨e, he', h4, h5⟩ := depB_spec ho' h2.2
            have h6 := getD_of_false (hwait e he' h5)
            have hq : ch.ops.getD c 0 = ch.ops[c] := by simp [List.getD_eq_getElem?_getD, h2.1]
            rw [h4, hq] at h6
            have := (I.chain c ch.ops[c] (by simp [h2.1])).1 h6
            omega
          exact get_put_ne hsl
      refine ih _ c _ w' ⟨by rw [putsL_size, I.size], by rw [putsL_defers, I.defers], hframe1 d u hd, ?_, hclosed, by simp [I.lsize], I.cle, ?_, ?_, grown_trans I.rel (grown_any hg _), ?_⟩ hcnt'
      · rw [hcv]
        exact hframe2 d u c _ w' hd (fun j u' hu => hΦ0 j c _ u' w w' hg hu) hv
      · intro m i' hm
        have hii : i' ≠ i := by
          rintro rfl
          have : ch.has i' = true := by simpa [Chain.has] using List.mem_of_getElem? hm
          rw [hin'] at this; cases this
        rw [hset i' hii]
        exact I.chain m i' hm
      · rw [hcv]; exact hC c _ w w' hg I.chainC
      · rw [hcv]; exact I.own

/-- A region in any order, a chain of whose operations write one's own list. -/
theorem reg_chain {id : Nat} (ch : Chain) (v0 : Value) (hm : P.follows .mixedOrders = true) (hlex : lexB' ol = true) (hdn : dstNB ol N = true) (hdst : dstsB ol = true) (hch : ch.okB ol = true)
    {l : List (Nat × Value)} {w : World} (hN : a0.tmps.size = N)
    (hΦ0 : ∀ j c v u w1 w2, w1.grownBy w2 none → Φ j c v u w1 → Φ j c v u w2) (hΦ1 : ∀ j c v v' u w1 w2, c < ch.ops.length → StepC v v' w1 w2 → Φ j c v u w1 → Φ j (c + 1) v' u w2)
    (hC : ∀ c v w1 w2, w1.grownBy w2 none → C c v w1 → C c v w2) (hCl : ∀ c v w, C c v w → ∀ k, v.ownBlock = some k → k < w.heap.size)
    (hC0 : C 0 v0 w)
    (obN : ∀ i o, ol[i]? = some o → ch.has i = false → ObNc P ol Φ ch v0 (putsL a0 l) N w i o) (obC : ∀ c i o, ch.ops[c]? = some i → ol[i]? = some o → ObCc P ol Φ C ch v0 (putsL a0 l) N w c i o)
    (fin : ∀ a' w' v, a'.tmps.size = N → a'.defers = a0.defers → (∀ t, (ol.all fun o => o.dst != some t) = true → a'.tmps.getD t undef = (putsL a0 l).tmps.getD t undef) →
      (∀ j oj d, ol[j]? = some oj → oj.dst = some d → Φ j ch.ops.length v (a'.tmps.getD d undef) w') → C ch.ops.length v w' → w.grownBy w' v0.ownBlock → (v.ownBlock = v0.ownBlock ∨ ∀ k, v.ownBlock = some k → w.heap.size ≤ k) → Q .normal (putsL a' []) w') :
    (Code.region id ol.toArray true).wp P Q (putsL a0 l) w := by
  refine wp_region_any hm ?_
  have hd : w.grownBy { w with drawn := w.drawn + 1 } none := ⟨rfl, rfl, rfl, Nat.le_refl _, fun _ _ _ => rfl⟩
  have I : RInc ol Φ C ch v0 (putsL a0 l) N w (Array.replicate ol.length false) 0 (putsL a0 l) { w with drawn := w.drawn + 1 } := by
    refine ⟨slN hN, rfl, fun _ _ => rfl, fun j o d hj hl => ?_, fun j o hj hl => ?_, by simp, Nat.zero_le _, fun m i hm => ?_, hC _ _ _ _ hd hC0, grown_any hd _, .inl rfl⟩
    · have : j < ol.length := (List.getElem?_eq_some_iff.1 hj).1
      simp [Array.getD_eq_getD_getElem?, this] at hl
    · have : j < ol.length := (List.getElem?_eq_some_iff.1 hj).1
      simp [Array.getD_eq_getD_getElem?, this] at hl
    · have h3 : i < ol.length := by
        have hch' := hch
        simp only [Chain.okB, Bool.and_eq_true] at hch'
        have := List.all_eq_true.1 hch'.1.2 i (List.mem_of_getElem? hm)
        simpa [Nat.blt_eq] using this
      simp [Array.getD_eq_getD_getElem?, h3]
  have := region_chain_steps (P := P) (Q := Q) hlex hdn hdst hch w hΦ0 hΦ1 hC hCl obN obC (fun a' w' J => fin a' w' _ J.size (by rw [J.defers, putsL_defers]) (fun t ht => J.base t fun j o hj _ hd => by
      have := List.all_eq_true.1 ht o (List.mem_of_getElem? hj)
      simp [hd] at this) (fun j oj d hj hd => J.phi j oj d hj (by
        have : j < ol.length := (List.getElem?_eq_some_iff.1 hj).1
        simp [Array.getD_eq_getD_getElem?, this]) hd) J.chainC J.rel J.own) ol.length (Array.replicate ol.length false) 0 _ _ I (Nat.le_trans (List.countP_le_length) (by simp))
  simpa using this
end
/-! told as lists -/
abbrev PhiC := Nat → Value → Value → World → Prop
def phiC (L : List PhiC) : Nat → Nat → Value → Value → World → Prop := fun j c v u w => (L.getD j (fun _ _ _ _ => True)) c v u w
def StK (n : Nat) : List PhiC → Prop
  | [] => True
  | φ :: L => ((∀ c v u w1 w2, w1.grownBy w2 none → φ c v u w1 → φ c v u w2) ∧ (∀ c v v' u w1 w2, c < n → StepC v v' w1 w2 → φ c v u w1 → φ (c + 1) v' u w2)) ∧ StK n L
theorem StK.get0 {n : Nat} : ∀ {L : List PhiC}, StK n L → ∀ j c v u w1 w2, w1.grownBy w2 none → phiC L j c v u w1 → phiC L j c v u w2
  | [], _, j, _, _, _, _, _, _, _ => by simp [phiC]
  | φ :: L, h, 0, c, v, u, w1, w2, E, hp => h.1.1 c v u w1 w2 E hp
  | φ :: L, h, j + 1, c, v, u, w1, w2, E, hp => StK.get0 h.2 j c v u w1 w2 E hp
theorem StK.get1 {n : Nat} : ∀ {L : List PhiC}, StK n L → ∀ j c v v' u w1 w2, c < n → StepC v v' w1 w2 → phiC L j c v u w1 → phiC L j (c + 1) v' u w2
  | [], _, j, _, _, _, _, _, _, _, _, _ => by simp [phiC]
  | φ :: L, h, 0, c, v, v', u, w1, w2, hc, E, hp => h.1.2 c v v' u w1 w2 hc E hp
  | φ :: L, h, j + 1, c, v, v', u, w1, w2, hc, E, hp => StK.get1 h.2 j c v v' u w1 w2 hc E hp
theorem StK.nil {n : Nat} : StK n [] := trivial
theorem StK.cons {n : Nat} {φ : PhiC} {L : List PhiC} (h0 : ∀ c v u w1 w2, w1.grownBy w2 none → φ c v u w1 → φ c v u w2) (h1 : ∀ c v v' u w1 w2, c < n → StepC v v' w1 w2 → φ c v u w1 → φ (c + 1) v' u w2) (h' : StK n L) : StK n (φ :: L) := ⟨⟨h0, h1⟩, h'⟩
theorem StK.eq {n : Nat} {x : Value} {L : List PhiC} (h' : StK n L) : StK n ((fun _ _ u _ => u = x) :: L) := ⟨⟨fun _ _ _ _ _ _ h => h, fun _ _ _ _ _ _ _ _ h => h⟩, h'⟩
/-- the list as it stands, behind the chain's m-th operation -/
def chP (m : Nat) : PhiC := fun c v u _ => m < c ∧ (c = m + 1 → u = v)
theorem StK.ch {n m : Nat} {L : List PhiC} (h' : StK n L) : StK n (chP m :: L) := ⟨⟨fun _ _ _ _ _ _ h => h, fun c v v' u w1 w2 _ _ h => ⟨by have := h.1; omega, fun hc => by have := h.1; omega⟩⟩, h'⟩
def CL (L : List (Value → World → Prop)) : Nat → Value → World → Prop := fun c v w => (L.getD c (fun _ _ => False)) v w
def StL2 : List (Value → World → Prop) → Prop
  | [] => True
  | φ :: L => ((∀ v w1 w2, w1.grownBy w2 none → φ v w1 → φ v w2) ∧ (∀ v w, φ v w → ∀ k, v.ownBlock = some k → k < w.heap.size)) ∧ StL2 L
theorem StL2.get0 : ∀ {L : List (Value → World → Prop)}, StL2 L → ∀ c v w1 w2, w1.grownBy w2 none → CL L c v w1 → CL L c v w2
  | [], _, j, _, _, _, _, h => by simp [CL] at h
  | φ :: L, h, 0, v, w1, w2, E, hp => h.1.1 v w1 w2 E hp
  | φ :: L, h, j + 1, v, w1, w2, E, hp => StL2.get0 h.2 j v w1 w2 E hp
theorem StL2.get1 : ∀ {L : List (Value → World → Prop)}, StL2 L → ∀ c v w, CL L c v w → ∀ k, v.ownBlock = some k → k < w.heap.size
  | [], _, j, _, _, h => by simp [CL] at h
  | φ :: L, h, 0, v, w, hp => h.1.2 v w hp
  | φ :: L, h, j + 1, v, w, hp => StL2.get1 h.2 j v w hp
theorem StL2.nil : StL2 [] := trivial
theorem StL2.own {b e sz n : Nat} {cs : List Value} {L : List (Value → World → Prop)} (h' : StL2 L) : StL2 ((fun v w => Own w b e sz v n cs) :: L) :=
  ⟨⟨fun _ _ _ E h => h.keep0 E, fun _ _ h k hk => (h.lt k hk).2⟩, h'⟩
section
variable {P : Program} {ol : List Oper} {Φ : Nat → Nat → Value → Value → World → Prop} {C : Nat → Value → World → Prop} {ch : Chain} {v0 : Value} {a0 : Act} {N : Nat} {w0 : World}
def ObLn (P : Program) (ol : List Oper) (Φ : Nat → Nat → Value → Value → World → Prop) (ch : Chain) (v0 : Value) (a0 : Act) (N : Nat) (w0 : World) : Nat → List Oper → Prop
  | _, [] => True
  | i, o :: r => (ch.has i = false → ObNc P ol Φ ch v0 a0 N w0 i o) ∧ ObLn P ol Φ ch v0 a0 N w0 (i + 1) r
theorem ObLn.nil {i : Nat} : ObLn P ol Φ ch v0 a0 N w0 i [] := trivial
theorem ObLn.cons {i : Nat} {o : Oper} {r : List Oper} (h : ObNc P ol Φ ch v0 a0 N w0 i o) (h' : ObLn P ol Φ ch v0 a0 N w0 (i + 1) r) : ObLn P ol Φ ch v0 a0 N w0 i (o :: r) := ⟨fun _ => h, h'⟩
theorem ObLn.pass {i : Nat} {o : Oper} {r : List Oper} (hh : ch.has i = true) (h' : ObLn P ol Φ ch v0 a0 N w0 (i + 1) r) : ObLn P ol Φ ch v0 a0 N w0 i (o :: r) := ⟨fun h => absurd (hh.symm.trans h) (by decide), h'⟩
theorem ObLn.getx : ∀ {l : List Oper} {i : Nat}, ObLn P ol Φ ch v0 a0 N w0 i l → ∀ j o, l[j]? = some o → ch.has (i + j) = false → ObNc P ol Φ ch v0 a0 N w0 (i + j) o
  | [], _, _, j, o, h, _ => by simp at h
  | o' :: r, i, h, 0, o, hj, hs => by simp at hj; subst hj; exact h.1 hs
  | o' :: r, i, h, j + 1, o, hj, hs => by
    have := ObLn.getx h.2 j o (by simpa using hj) (by rwa [show i + 1 + j = i + (j + 1) by omega])
    rwa [show i + 1 + j = i + (j + 1) by omega] at this
theorem ObLn.get {l : List Oper} (h : ObLn P ol Φ ch v0 a0 N w0 0 l) : ∀ j o, l[j]? = some o → ch.has j = false → ObNc P ol Φ ch v0 a0 N w0 j o := fun j o hj hs => by
  have := ObLn.getx h j o hj (by rwa [Nat.zero_add])
  rwa [Nat.zero_add] at this
def ObLc (P : Program) (ol : List Oper) (Φ : Nat → Nat → Value → Value → World → Prop) (C : Nat → Value → World → Prop) (ch : Chain) (v0 : Value) (a0 : Act) (N : Nat) (w0 : World) : Nat → List Nat → Prop
  | _, [] => True
  | c, i :: r => (∀ o, ol[i]? = some o → ObCc P ol Φ C ch v0 a0 N w0 c i o) ∧ ObLc P ol Φ C ch v0 a0 N w0 (c + 1) r
theorem ObLc.nil {c : Nat} : ObLc P ol Φ C ch v0 a0 N w0 c [] := trivial
theorem ObLc.cons {c i : Nat} {r : List Nat} (h : ∀ o, ol[i]? = some o → ObCc P ol Φ C ch v0 a0 N w0 c i o) (h' : ObLc P ol Φ C ch v0 a0 N w0 (c + 1) r) : ObLc P ol Φ C ch v0 a0 N w0 c (i :: r) := ⟨h, h'⟩
theorem ObLc.getx : ∀ {l : List Nat} {c : Nat}, ObLc P ol Φ C ch v0 a0 N w0 c l → ∀ m i o, l[m]? = some i → ol[i]? = some o → ObCc P ol Φ C ch v0 a0 N w0 (c + m) i o
  | [], _, _, j, i, o, h, _ => by simp at h
  | o' :: r, c, h, 0, i, o, hj, ho => by simp at hj; subst hj; exact h.1 o ho
  | o' :: r, c, h, j + 1, i, o, hj, ho => by
    have := ObLc.getx h.2 j i o (by simpa using hj) ho
    rwa [show c + 1 + j = c + (j + 1) by omega] at this
theorem ObLc.get {l : List Nat} (h : ObLc P ol Φ C ch v0 a0 N w0 0 l) : ∀ m i o, l[m]? = some i → ol[i]? = some o → ObCc P ol Φ C ch v0 a0 N w0 m i o := fun m i o hj ho => by
  have := ObLc.getx h m i o hj ho
  rwa [Nat.zero_add] at this
theorem obNc_end {i c d : Nat} {v u : Value} {o : Oper} {ops : Array Oper} {a : Act} {w w' : World} (hd : o.dst = some d) (hv : Φ i c v u w') (hg : w.grownBy w' none) :
    wpList P ops (fun e a' w' => e = .normal ∧ (∃ d u, o.dst = some d ∧ a' = putsL a [(d, u)] ∧ Φ i c v u w') ∧ w.grownBy w' none) [] (putsL a [(d, u)]) w' := ⟨rfl, ⟨d, u, hd, rfl, hv⟩, hg⟩
theorem obCc_end {i c d : Nat} {v u : Value} {o : Oper} {ops : Array Oper} {a : Act} {w w' : World} (hd : o.dst = some d) (hsl : ch.slot (c + 1) = d) (hv : Φ i (c + 1) u u w') (hc : C (c + 1) u w') (hg : StepC v u w w') :
    wpList P ops (fun e a' w' => e = .normal ∧ ∃ d u, o.dst = some d ∧ ch.slot (c + 1) = d ∧ a' = putsL a [(d, u)] ∧ Φ i (c + 1) u u w' ∧ C (c + 1) u w' ∧ StepC v u w w') [] (putsL a [(d, u)]) w' := ⟨rfl, d, u, hd, hsl, rfl, hv, hc, hg⟩
theorem chP_now {m : Nat} {v : Value} {w : World} : chP m (m + 1) v v w := ⟨Nat.lt_succ_self m, fun _ => rfl⟩
theorem ne_step {v v' : Value} {b : Nat} {w1 w2 : World} (E : StepC v v' w1 w2) (hb : b < w1.heap.size) (h : v.ownBlock ≠ some b) : v'.ownBlock ≠ some b := by
  rcases E.2 with h' | h'
  · rw [h']; exact h
  · intro hh; have := h' b hh; omega
theorem ge_step {v v' : Value} {B : Nat} {w1 w2 : World} (E : StepC v v' w1 w2) (hB : B ≤ w1.heap.size) (h : ∀ k, v.ownBlock = some k → B ≤ k) : ∀ k, v'.ownBlock = some k → B ≤ k := by
  rcases E.2 with h' | h'
  · rw [h']; exact h
  · intro k hk; have := h' k hk; omega
end
theorem Own.keepX {w w' : World} {base e sz n b t : Nat} {v : Value} {cs ws : List Value} (O : Own w base e sz v n cs) (h : Bx w b t ws) (E : w.grownBy w' (some b)) (hne : t ≠ e) : Own w' base e sz v n cs := by
  refine O.keep E (.inr ?_)
  rcases O.2 with ⟨rfl, _⟩ | ⟨g, off, cap, cur, fr, rfl, hb, hg, _⟩
  · simp [Value.ownBlock]
  · simp only [Value.ownBlock, ne_eq, Option.some.injEq]
    rintro rfl
    have h' : w.heap[g]? = some (.cells ws.toArray t (0, 0)) := h
    rw [h'] at hg
    simp at hg
    exact hne hg.2.1
end Go.Gx
