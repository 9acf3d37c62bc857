/- Small laws for walks, the thirtieth part: a region of open order with operations one behind the other that change the world and hand back what nobody knows ahead, and light ones beside them. -/
import Derived.Test.YtmhdbphpmgjpcaaB2
set_option linter.unusedVariables false
set_option linter.unusedSimpArgs false

namespace Go.Gx
open Go.RowKit
section
variable {P : Program} {ol : List Oper} {Q : Exit → Act → World → Prop} {E : Type} {Φ : E → Nat → Value → Prop} {C : E → Nat → World → Prop} {ch : Chain} {a0 : Act} {N : Nat}
def ObNE (P : Program) (ol : List Oper) (Φ : E → Nat → Value → Prop) (C : E → Nat → World → Prop) (a0 : Act) (N : Nat) (i : Nat) (o : Oper) : Prop :=
  ∀ (e : E) (a : Act) (w : World) (c : Nat), a.tmps.size = N → C e c w → (∀ t, safeB ol i t = true → a.tmps.getD t undef = a0.tmps.getD t undef) → (∀ j oj d, depB ol i j = true → ol[j]? = some oj → oj.dst = some d → Φ e j (a.tmps.getD d undef)) →
    wpList P ol.toArray (fun ex a' w' => ex = .normal ∧ (∃ d v, o.dst = some d ∧ a' = putsL a [(d, v)] ∧ Φ e i v) ∧ w.grownBy w' none) [o] (putsL a []) w
def ObCE (P : Program) (ol : List Oper) (Φ : E → Nat → Value → Prop) (C : E → Nat → World → Prop) (a0 : Act) (N : Nat) (c i : Nat) (o : Oper) : Prop :=
  ∀ (e : E) (a : Act) (w : World), a.tmps.size = N → (∀ t, safeB ol i t = true → a.tmps.getD t undef = a0.tmps.getD t undef) → (∀ j oj d, depB ol i j = true → ol[j]? = some oj → oj.dst = some d → Φ e j (a.tmps.getD d undef)) → C e c w →
    wpList P ol.toArray (fun ex a' w' => ex = .normal ∧ ∃ e', (∀ j u, Φ e j u → Φ e' j u) ∧ ((o.dst = none ∧ a' = a) ∨ ∃ d v, o.dst = some d ∧ a' = putsL a [(d, v)] ∧ Φ e' i v) ∧ C e' (c + 1) w') [o] (putsL a []) w
theorem region_env_steps (hlex : lexB' ol = true) (hdn : dstNB ol N = true) (hdst : dstsB ol = true) (hch : ch.okB ol = true) (w0 : World)
    (hC : ∀ e c w1 w2, w1.grownBy w2 none → C e c w1 → C e c w2)
    (obN : ∀ i o, ol[i]? = some o → ch.has i = false → ObNE P ol Φ C a0 N i o) (obC : ∀ c i o, ch.ops[c]? = some i → ol[i]? = some o → ObCE P ol Φ C a0 N c i o)
    (fin : ∀ a w e, RInv ol (fun j u _ => Φ e j u) (fun c _ w => C e c w) ch a0 N w0 (fun _ _ => True) (Array.replicate ol.length true) ch.ops.length a w → Q .normal a w) :
    ∀ (fuel : Nat) (listed : Array Bool) (c : Nat) (a : Act) (w : World) (e : E), RInv ol (fun j u _ => Φ e j u) (fun c _ w => C e c w) ch a0 N w0 (fun _ _ => True) listed c a w → (List.range ol.length).countP (fun i => !listed.getD i true) ≤ fuel → wpAny P .any ol.toArray Q fuel listed a w := by
  have hch' := hch
  simp only [Chain.okB, Bool.and_eq_true] at hch'
  obtain ⟨⟨⟨hc1, hc2⟩, hc3⟩, hc4⟩ := hch'
  have done : ∀ (listed : Array Bool) (c : Nat) (a : Act) (w : World) (e : E), RInv ol (fun j u _ => Φ e j u) (fun c _ w => C e c w) ch a0 N w0 (fun _ _ => True) listed c a w → Region.ready .any ol.toArray listed = [] → Q .normal a w := by
    intro listed c a w ee I hr
    have hall : ∀ i, i < ol.length → listed.getD i true = true := by
      intro i
      induction i using Nat.strongRecOn with
      | _ i ih =>
        intro hi
        by_cases hq : listed.getD i true = true
        · exact hq
        · exfalso
          have hm : i ∈ Region.ready .any ol.toArray listed := by
            rw [mem_ready]
            refine ⟨by simpa using hq, ol[i], by simp [hi], fun e he hb => ?_⟩
            have h1 := List.all_eq_true.1 hlex i (by simp [hi])
            simp only [List.getElem?_eq_getElem hi, Array.all_eq_true_iff_forall_mem, Bool.or_eq_true, Bool.not_eq_true', Nat.blt_eq] at h1
            have h2 := (h1 e he).resolve_left (by simp [hb])
            exact getD_true_lt (ih e.on h2 (by omega)) (by rw [I.lsize]; omega)
          rw [hr] at hm
          cases hm
    have hl : listed = Array.replicate ol.length true := by
      apply Array.ext
      · simp [I.lsize]
      · intro i h1 h2
        have := hall i (by simpa using h2)
        simp [Array.getD_eq_getD_getElem?, h1] at this
        simp [this]
    have hcc : c = ch.ops.length := by
      rcases Nat.lt_or_ge c ch.ops.length with h | h
      · exfalso
        have h1 := (I.chain c ch.ops[c] (by simp [h])).1 (hall _ (by
          have := List.all_eq_true.1 hc3 ch.ops[c] (List.getElem_mem h)
          simpa [Nat.blt_eq] using this))
        omega
      · exact Nat.le_antisymm I.cle h
    subst hl; subst hcc
    exact fin a w ee I
  intro fuel
  induction fuel with
  | zero =>
    intro listed c a w ee I hcnt
    have hr : Region.ready .any ol.toArray listed = [] := by
      rw [List.eq_nil_iff_forall_not_mem]
      intro i hi
      obtain ⟨h1, o, ho, _⟩ := mem_ready.1 hi
      have hlt : i < ol.length := by simpa using (Array.getElem?_eq_some_iff.1 ho).1
      have hz : (List.range ol.length).countP (fun i => !listed.getD i true) = 0 := by omega
      rw [List.countP_eq_zero] at hz
      exact hz i (by simp [hlt]) (by simp [h1])
    exact ⟨hr, done listed c a w ee I hr⟩
  | succ fuel ih =>
    intro listed c a w ee I hcnt
    refine ⟨fun hr => done listed c a w ee I hr, fun i hi => ?_⟩
    obtain ⟨hun, o, ho, hwait⟩ := mem_ready.1 hi
    have ho' : ol[i]? = some o := by simpa using ho
    have hlt : i < ol.length := (List.getElem?_eq_some_iff.1 ho').1
    have hls : i < listed.size := by rw [I.lsize]; exact hlt
    have hcnt' : (List.range ol.length).countP (fun j => !(listed.setIfInBounds i true).getD j true) ≤ fuel := by
      have : (List.range ol.length).countP (fun j => !(listed.setIfInBounds i true).getD j true) < (List.range ol.length).countP (fun j => !listed.getD j true) := by
        refine countP_lt _ _ (fun y hy => ?_) _ i (by simp [hlt]) (by simp [hun]) (by simp [Array.getD_eq_getD_getElem?, hls])
        by_cases hiy : i = y
        · subst hiy; simp [Array.getD_eq_getD_getElem?, hls] at hy
        · rwa [getD_set_ne true hiy] at hy
      omega
    have hbase : ∀ t, safeB ol i t = true → a.tmps.getD t undef = a0.tmps.getD t undef := by
      intro t ht
      refine I.base t fun j oj hj hlj hd => ?_
      have h1 := List.all_eq_true.1 ht oj (List.mem_of_getElem? hj)
      simp only [Bool.or_eq_true, bne_iff_ne, ne_eq, Array.any_eq_true, Bool.and_eq_true, beq_iff_eq] at h1
      rcases h1 with h1 | ⟨q, hq, h1, h2⟩
      · exact h1 hd
      · have := getD_of_false (I.closed j oj hj hlj _ (Array.getElem_mem hq) h2)
        rw [h1, hun] at this
        cases this
    have hdep : ∀ j oj d, depB ol i j = true → ol[j]? = some oj → oj.dst = some d → Φ ee j (a.tmps.getD d undef) := by
      intro j oj d hj hoj hd
      obtain ⟨e, he, h1, h2⟩ := depB_spec ho' hj
      exact I.phi j oj d hoj (getD_of_false (by rw [← h1]; exact hwait e he h2)) hd
    have hset : ∀ j, j ≠ i → (listed.setIfInBounds i true).getD j true = listed.getD j true := fun j hj => getD_set_ne true (Ne.symm hj)
    have hseti : (listed.setIfInBounds i true).getD i true = true := by simp [Array.getD_eq_getD_getElem?, hls]
    have hclosed : ∀ j oj, ol[j]? = some oj → (listed.setIfInBounds i true).getD j true = true → ∀ e ∈ oj.after, Region.binds .any e = true → (listed.setIfInBounds i true).getD e.on false = true := by
      intro j oj hoj hlj e he hb
      refine getD_set_true ?_
      by_cases hji : j = i
      · subst hji
        rw [ho'] at hoj; cases hoj
        exact hwait e he hb
      · rw [hset j hji] at hlj
        exact I.closed j oj hoj hlj e he hb
    have hne : ∀ j oj d, ol[j]? = some oj → j ≠ i → o.dst = some d → oj.dst ≠ some d := by
      intro j oj d hoj hji hd hd'
      have hj : j < ol.length := (List.getElem?_eq_some_iff.1 hoj).1
      have h1 := List.all_eq_true.1 (List.all_eq_true.1 hdst i (by simp [hlt])) j (by simp [hj])
      simp only [ho', hoj, Bool.or_eq_true, beq_iff_eq, bne_iff_ne, ne_eq] at h1
      rcases h1 with h1 | h1 | h1
      · exact hji h1.symm
      · exact h1 (by rw [hd, hd'])
      · rw [hd] at h1; cases h1
    -- what is left of the frame, behind a value in slot d
    have hframe : ∀ d v (e' : E), o.dst = some d → (∀ j u, Φ ee j u → Φ e' j u) → Φ e' i v → 
        (∀ t, (∀ j oj, ol[j]? = some oj → (listed.setIfInBounds i true).getD j true = true → oj.dst ≠ some t) → (putsL a [(d, v)]).tmps.getD t undef = a0.tmps.getD t undef) ∧
        (∀ j oj d', ol[j]? = some oj → (listed.setIfInBounds i true).getD j true = true → oj.dst = some d' → Φ e' j ((putsL a [(d, v)]).tmps.getD d' undef)) := by
      intro d v e' hd hR hv
      have hdN : d < a.tmps.size := by
        have h1 := List.all_eq_true.1 hdn o (List.mem_of_getElem? ho')
        simp only [hd, Nat.blt_eq] at h1
        rw [I.size]; exact h1
      refine ⟨fun t ht => ?_, fun j oj d' hoj hlj hd' => ?_⟩
      · have hdt : d ≠ t := fun e => ht i o ho' hseti (by rw [hd, e])
        rw [get_put_ne hdt]
        refine I.base t fun j oj hoj hlj => ?_
        by_cases hji : j = i
        · subst hji; rw [hun] at hlj; cases hlj
        · exact ht j oj hoj (by rw [hset j hji]; exact hlj)
      · by_cases hji : j = i
        · subst hji
          rw [ho'] at hoj; cases hoj
          rw [hd] at hd'; cases hd'
          rw [get_put_eq hdN]
          exact hv
        · rw [hset j hji] at hlj
          have : d ≠ d' := fun e => hne j oj d hoj hji hd (by rw [hd', e])
          rw [get_put_ne this]
          exact hR j _ (I.phi j oj d' hoj hlj hd')
    by_cases hin : ch.has i = true
    · have hmem : i ∈ ch.ops := by simpa [Chain.has] using hin
      obtain ⟨c0, hc0, hci⟩ := List.getElem_of_mem hmem
      have hci' : ch.ops[c0]? = some i := by simp [hc0, hci]
      have hcc : c0 = c := by
        have h1 : ¬ c0 < c := fun h => by
          have := (I.chain c0 i hci').2 h
          rw [hun] at this; cases this
        rcases Nat.lt_or_ge c c0 with h2 | h2
        · exfalso
          have h3 := List.all_eq_true.1 hc1 c0 (by simp [hc0])
          have hz : (c0 == 0) = false := by simp; omega
          have hp : ch.ops.getD (c0 - 1) 0 = ch.ops[c0 - 1] := by simp [List.getD_eq_getElem?_getD, show c0 - 1 < ch.ops.length by omega]
          have hq : ch.ops.getD c0 0 = i := by simp [List.getD_eq_getElem?_getD, hc0, hci]
          rw [hz, hp, hq, Bool.false_or] at h3
          obtain ⟨e, he, h4, h5⟩ := depB_spec ho' h3
          have h6 := getD_of_false (hwait e he h5)
          rw [h4] at h6
          have := (I.chain (c0 - 1) ch.ops[c0 - 1] (by simp [show c0 - 1 < ch.ops.length by omega])).1 h6
          omega
        · omega
      subst hcc
      refine wp_one (by simpa using ho') (obC c0 i o hci' ho' ee a w I.size hbase hdep I.chainC) fun a' w' h => ?_
      obtain ⟨e', hm, h1, h2⟩ := h
      have hchain : ∀ m i', ch.ops[m]? = some i' → ((listed.setIfInBounds i true).getD i' true = true ↔ m < c0 + 1) := by
        intro m i' hm
        by_cases hii : i' = i
        · subst hii
          have : m = c0 := by
            have hnd : ch.ops.Nodup := of_decide_eq_true hc4
            have hmlt : m < ch.ops.length := (List.getElem?_eq_some_iff.1 hm).1
            exact (List.getElem?_inj hmlt hnd).1 (by rw [hm, hci'])
          exact ⟨fun _ => by omega, fun _ => hseti⟩
        · rw [hset i' hii, I.chain m i' hm]
          refine ⟨fun h => by omega, fun h => ?_⟩
          rcases Nat.lt_or_ge m c0 with h' | h'
          · exact h'
          · have : m = c0 := by omega
            subst this
            rw [hci'] at hm; exact absurd (Option.some.inj hm).symm hii
      refine ih _ (c0 + 1) a' w' e' ?_ hcnt'
      rcases h1 with ⟨hd, rfl⟩ | ⟨d, v, hd, rfl, hv⟩
      · refine ⟨I.size, I.defers, fun t ht => ?_, fun j oj d' hoj hlj hd' => ?_, hclosed, by simp [I.lsize], by omega, hchain, h2, trivial⟩
        · refine I.base t fun j oj hoj hlj => ?_
          by_cases hji : j = i
          · subst hji; rw [hun] at hlj; cases hlj
          · exact ht j oj hoj (by rw [hset j hji]; exact hlj)
        · by_cases hji : j = i
          · subst hji
            rw [ho'] at hoj; cases hoj
            rw [hd] at hd'; cases hd'
          · rw [hset j hji] at hlj
            exact hm j _ (I.phi j oj d' hoj hlj hd')
      · obtain ⟨f1, f2⟩ := hframe d v e' hd hm hv
        exact ⟨by rw [putsL_size, I.size], by rw [putsL_defers, I.defers], f1, f2, hclosed, by simp [I.lsize], by omega, hchain, h2, trivial⟩
    · have hin' : ch.has i = false := by simpa using hin
      refine wp_one (by simpa using ho') (obN i o ho' hin' ee a w c I.size I.chainC hbase hdep) fun a' w' h => ?_
      obtain ⟨⟨d, v, hd, rfl, hv⟩, hg⟩ := h
      obtain ⟨f1, f2⟩ := hframe d v ee hd (fun _ _ h => h) hv
      refine ih _ c _ w' ee ⟨by rw [putsL_size, I.size], by rw [putsL_defers, I.defers], f1, f2, hclosed, by simp [I.lsize], I.cle, ?_, hC _ _ w w' hg I.chainC, trivial⟩ hcnt'
      · intro m i' hm
        have hii : i' ≠ i := by
          rintro rfl
          have : ch.has i' = true := by simpa [Chain.has] using List.mem_of_getElem? hm
          rw [hin'] at this; cases this
        rw [hset i' hii]
        exact I.chain m i' hm
end

section
variable {P : Program} {ol : List Oper} {Q : Exit → Act → World → Prop} {ops : List Nat} {φ : Nat → Value → Prop} {G : World → Prop} {a0 : Act} {N : Nat}
def PhE (ops : List Nat) (φ : Nat → Value → Prop) (e : List Value) (j : Nat) (u : Value) : Prop := (∀ c : Nat, ops[c]? = some j → e[c]? = some u) ∧ (ops.contains j = false → φ j u)
theorem PhE.mono {e : List Value} {v : Value} {j : Nat} {u : Value} (h : PhE ops φ e j u) : PhE ops φ (e ++ [v]) j u :=
  ⟨fun c hc => by have h1 := h.1 c hc; have hl := (List.getElem?_eq_some_iff.1 h1).1; rw [List.getElem?_append_left hl]; exact h1, h.2⟩
theorem PhE.light {j : Nat} {e : List Value} {u : Value} (hh : ops.contains j = false) (h : φ j u) : PhE ops φ e j u :=
  ⟨fun c hc => by have : ops.contains j = true := by simpa using List.mem_of_getElem? hc
                  exact absurd (this.symm.trans hh) (by decide), fun _ => h⟩
def KE (P : Program) (ol : List Oper) (ops : List Nat) (φ : Nat → Value → Prop) (G : World → Prop) (a0 : Act) (N : Nat) (Q : Exit → Act → World → Prop) : List Nat → List Value → World → Prop
  | [], e, w => ∀ w1, w.grownBy w1 none → ∀ a', a'.tmps.size = N → a'.defers = a0.defers → (∀ t, (ol.all fun o => o.dst != some t) = true → a'.tmps.getD t undef = a0.tmps.getD t undef) →
      (∀ j oj d, ol[j]? = some oj → oj.dst = some d → PhE ops φ e j (a'.tmps.getD d undef)) → Q .normal (putsL a' []) w1
  | i :: r, e, w => ∀ w1, w.grownBy w1 none → G w1 → ∀ a, a.tmps.size = N → (∀ t, safeB ol i t = true → a.tmps.getD t undef = a0.tmps.getD t undef) → (∀ j oj d, depB ol i j = true → ol[j]? = some oj → oj.dst = some d → PhE ops φ e j (a.tmps.getD d undef)) →
      ∀ o, ol[i]? = some o → wpList P ol.toArray (fun ex a' w' => ex = .normal ∧ ∃ e', (∀ j u, PhE ops φ e j u → PhE ops φ e' j u) ∧ ((o.dst = none ∧ a' = a) ∨ ∃ d v, o.dst = some d ∧ a' = putsL a [(d, v)] ∧ PhE ops φ e' i v) ∧ (e'.length = e.length + 1 ∧ KE P ol ops φ G a0 N Q r e' w' ∧ G w')) [o] (putsL a []) w1
theorem KE.stable : ∀ {rs : List Nat} {e : List Value} {w w2 : World}, KE P ol ops φ G a0 N Q rs e w → w.grownBy w2 none → KE P ol ops φ G a0 N Q rs e w2
  | [], _, _, _, h, E => fun w1 E1 => h w1 (grown_trans E E1)
  | _ :: _, _, _, _, h, E => fun w1 E1 => h w1 (grown_trans E E1)
def ObE (P : Program) (ol : List Oper) (ops : List Nat) (φ : Nat → Value → Prop) (G : World → Prop) (a0 : Act) (N : Nat) (i : Nat) (o : Oper) : Prop :=
  ∀ (e : List Value) (a : Act) (w : World), a.tmps.size = N → G w → (∀ t, safeB ol i t = true → a.tmps.getD t undef = a0.tmps.getD t undef) → (∀ j oj d, depB ol i j = true → ol[j]? = some oj → oj.dst = some d → PhE ops φ e j (a.tmps.getD d undef)) →
    wpList P ol.toArray (fun ex a' w' => ex = .normal ∧ (∃ d v, o.dst = some d ∧ a' = putsL a [(d, v)] ∧ PhE ops φ e i v) ∧ w.grownBy w' none) [o] (putsL a []) w
def ObEs (P : Program) (ol : List Oper) (ops : List Nat) (φ : Nat → Value → Prop) (G : World → Prop) (a0 : Act) (N : Nat) : Nat → List Oper → Prop
  | _, [] => True
  | i, o :: r => (ops.contains i = false → ObE P ol ops φ G a0 N i o) ∧ ObEs P ol ops φ G a0 N (i + 1) r
theorem ObEs.nil {i : Nat} : ObEs P ol ops φ G a0 N i [] := trivial
theorem ObEs.cons {i : Nat} {o : Oper} {r : List Oper} (h : ObE P ol ops φ G a0 N i o) (h' : ObEs P ol ops φ G a0 N (i + 1) r) : ObEs P ol ops φ G a0 N i (o :: r) := ⟨fun _ => h, h'⟩
theorem ObEs.pass {i : Nat} {o : Oper} {r : List Oper} (hh : ops.contains i = true) (h' : ObEs P ol ops φ G a0 N (i + 1) r) : ObEs P ol ops φ G a0 N i (o :: r) := ⟨fun h => absurd (hh.symm.trans h) (by decide), h'⟩
theorem ObEs.getx : ∀ {l : List Oper} {i : Nat}, ObEs P ol ops φ G a0 N i l → ∀ j o, l[j]? = some o → ops.contains (i + j) = false → ObE P ol ops φ G a0 N (i + j) o
  | [], _, _, j, o, h, _ => by simp at h
  | o' :: r, i, h, 0, o, hj, hs => by simp at hj; subst hj; exact h.1 hs
  | o' :: r, i, h, j + 1, o, hj, hs => by
    have := ObEs.getx h.2 j o (by simpa using hj) (by rwa [show i + 1 + j = i + (j + 1) by omega])
    rwa [show i + 1 + j = i + (j + 1) by omega] at this
theorem any_env (ops : List Nat) (hlex : lexB' ol = true) (hdn : dstNB ol N = true) (hdst : dstsB ol = true) (hch : (⟨ops, fun _ => N⟩ : Chain).okB ol = true)
    {l : List (Nat × Value)} {w : World} (hN : a0.tmps.size = N) (hG : ∀ w1 w2, w1.grownBy w2 none → G w1 → G w2) (g0 : G w) (obL : ObEs P ol ops φ G (putsL a0 l) N 0 ol) (hdf : (putsL a0 l).defers = a0.defers)
    (main : KE P ol ops φ G (putsL a0 l) N Q ops [] w) : RegAny P ol Q (putsL a0 l) w := by
  have hnd : ops.Nodup := by
    have h := hch; simp only [Chain.okB, Bool.and_eq_true] at h; exact of_decide_eq_true h.2
  have hd : w.grownBy { w with drawn := w.drawn + 1 } none := ⟨rfl, rfl, rfl, Nat.le_refl _, fun _ _ _ => rfl⟩
  have I : RInv ol (fun j u _ => PhE ops φ [] j u) (fun c _ w => ([] : List Value).length = c ∧ KE P ol ops φ G (putsL a0 l) N Q (ops.drop c) [] w ∧ G w) ⟨ops, fun _ => N⟩ (putsL a0 l) N w (fun _ _ => True) (Array.replicate ol.length false) 0 (putsL a0 l) { w with drawn := w.drawn + 1 } := by
    refine ⟨slN hN, rfl, fun _ _ => rfl, fun j o d hj hl => ?_, fun j o hj hl => ?_, by simp, Nat.zero_le _, fun m i hm => ?_, ⟨rfl, main.stable hd, hG _ _ hd g0⟩, trivial⟩
    · have : j < ol.length := (List.getElem?_eq_some_iff.1 hj).1
      simp [Array.getD_eq_getD_getElem?, this] at hl
    · have : j < ol.length := (List.getElem?_eq_some_iff.1 hj).1
      simp [Array.getD_eq_getD_getElem?, this] at hl
    · have h3 : i < ol.length := by
        have hch' := hch
        simp only [Chain.okB, Bool.and_eq_true] at hch'
        have := List.all_eq_true.1 hch'.1.2 i (List.mem_of_getElem? hm)
        simpa [Nat.blt_eq] using this
      simp [Array.getD_eq_getD_getElem?, h3]
  have := region_env_steps (P := P) (Q := Q) (E := List Value) (Φ := fun e j u => PhE ops φ e j u) (C := fun e c w => e.length = c ∧ KE P ol ops φ G (putsL a0 l) N Q (ops.drop c) e w ∧ G w) (ch := ⟨ops, fun _ => N⟩) hlex hdn hdst hch w
    (fun e c w1 w2 E1 h => ⟨h.1, h.2.1.stable E1, hG _ _ E1 h.2.2⟩)
    (fun i o hi hh e a w1 c h1 h2 h3 h4 => by
      have hh' : ops.contains i = false := hh
      have h5 := ObEs.getx obL i o hi (by rw [Nat.zero_add]; exact hh') e a w1 h1 h2.2.2 (by rw [Nat.zero_add]; exact h3) (by rw [Nat.zero_add]; exact h4)
      rw [Nat.zero_add] at h5; exact h5)
    (fun c i o hc hi e a w1 h1 h2 h3 h4 => by
      obtain ⟨hl, hk, hg⟩ := h4
      have hdr : ops.drop c = i :: ops.drop (c + 1) := by
        have hlt : c < ops.length := (List.getElem?_eq_some_iff.1 hc).1
        rw [List.drop_eq_getElem_cons hlt, (List.getElem?_eq_some_iff.1 hc).2]
      rw [hdr] at hk
      subst hl
      exact hk w1 (grown_refl _ _) hg a h1 h2 h3 o hi)
    (fun a' w' e J => by
      have hk := J.chainC.2.1
      rw [List.drop_of_length_le (Nat.le_refl _)] at hk
      exact hk w' (grown_refl _ _) a' J.size (J.defers) (fun t ht => J.base t fun j o hj _ hd' => by
        have := List.all_eq_true.1 ht o (List.mem_of_getElem? hj)
        simp [hd'] at this) (fun j oj d hj hd' => J.phi j oj d hj (by
        have : j < ol.length := (List.getElem?_eq_some_iff.1 hj).1
        simp [Array.getD_eq_getD_getElem?, this]) hd'))
    ol.length (Array.replicate ol.length false) 0 (putsL a0 l) _ [] I (Nat.le_trans (List.countP_le_length) (by simp))
  exact this
theorem ke_end {o : Oper} {i d : Nat} {v : Value} {a : Act} {w : World} {e : List Value} {r : List Nat} (hi : ops[e.length]? = some i) (hnd : ops.Nodup) (hd : o.dst = some d) (g : G w) (h : KE P ol ops φ G a0 N Q r (e ++ [v]) w) :
    wpList P ol.toArray (fun ex a' w' => ex = .normal ∧ ∃ e', (∀ j u, PhE ops φ e j u → PhE ops φ e' j u) ∧ ((o.dst = none ∧ a' = a) ∨ ∃ d v, o.dst = some d ∧ a' = putsL a [(d, v)] ∧ PhE ops φ e' i v) ∧ (e'.length = e.length + 1 ∧ KE P ol ops φ G a0 N Q r e' w' ∧ G w')) [] (putsL a [(d, v)]) w :=
  ⟨rfl, e ++ [v], fun _ _ h => h.mono, .inr ⟨d, v, hd, rfl, fun c' hc' => by
    have : c' = e.length := (List.getElem?_inj (List.getElem?_eq_some_iff.1 hc').1 hnd).1 (by rw [hc', hi])
    subst this; simp, fun hh => by
    have : ops.contains i = true := by simpa using List.mem_of_getElem? hi
    exact absurd (this.symm.trans hh) (by decide)⟩, by simp, h, g⟩
theorem obE_end {o : Oper} {i d : Nat} {v : Value} {a : Act} {w : World} {e : List Value} (hh : ops.contains i = false) (hd : o.dst = some d) (hv : φ i v) :
    wpList P ol.toArray (fun ex a' w' => ex = .normal ∧ (∃ d v, o.dst = some d ∧ a' = putsL a [(d, v)] ∧ PhE ops φ e i v) ∧ w.grownBy w' none) [] (putsL a [(d, v)]) w := ⟨rfl, ⟨d, v, hd, rfl, PhE.light hh hv⟩, grown_refl _ _⟩
end
end Go.Gx

namespace Go.Proofs.Ytmhdbphpmgjpcaa
open Go.Gx Go.RowKit
attribute [local irreducible] wpList wpStill Code.wp Calls

theorem addS {base p : Nat} {la rv wv : Value} {lab : List UInt16} {stp : Int} {D : List RD} {Wr : List (List UInt8)} {dm : Bool} {x : List UInt8} {w : World} (hbase : base ≤ w.heap.size) (hx : Bx w p 164 [la, .int .u64 stp, rv, wv, .bool dm]) (hLa : Own w base 46 1 la lab.length (lab.map u16v)) (hR : Own w base 169 2 rv D.length (D.flatMap cellsRd)) (hD : ∀ x9 ∈ D.map rdL, Own w base 46 1 x9.1 x9.2.length (x9.2.map u16v)) (hW : Own w base 9 1 wv Wr.length (Wr.map sv)) (h8 : lab.length ≤ 8 ∧ ∀ r ∈ D, r.lab.length ≤ 8) (hn9 : Wr.length ≤ 100000) : Ret Try.prog 103 #[(ptr p 3), (.string (bs x)), (.func (.func 104) #[] #[])] w (fun v' w' => Gr w w' (fun y => y = p ∨ Bl wv y) ∧ ∃ wv', Bx w' p 164 [la, .int .u64 stp, rv, wv', .bool dm] ∧ Own w' base 9 1 wv' (addW Wr x).length ((addW Wr x).map sv) ∧ (∀ y, Bl wv' y → Bl wv y ∨ w.heap.size ≤ y)) := by
 have hi_p := hx.lt
 have hb := Gr.refl w (fun y => y = p ∨ Bl wv y)
 refine enter (N := 23) Try.func103 rfl rfl (by simp) fun a hN hd hA => ?_
 have b : a.tmps.getD 0 undef = (ptr p 3) := hA 0 (by simp)
 have c : a.tmps.getD 1 undef = (.string (bs x)) := hA 1 (by simp)
 have d : a.tmps.getD 2 undef = (.func (.func 104) #[] #[]) := hA 2 (by simp)
 clear hA
 refine zF fun _ f => zH (op_box (cs := [(.string (bs x))]) (zC hN rfl c) rfl ?_)
 intro m k q o j l
 have s : wv.ownBlock ≠ some k := fun hh => by have := (hW.lt _ hh).2; omega
 obtain ⟨hb, _⟩ := yG hb l
 refine op_box (cs := [(.func (.func 104) #[] #[])]) (zC hN rfl d) rfl ?_
 intro A u z B v t
 obtain ⟨hb, _⟩ := yG hb t
 have hx := (hx.keep0 l).keep0 t
 have hW := (hW.keep0 l).keep0 t
 have j := j.keep0 t
 refine zB (f _ _ (zF fun _ f => ?_))
 refine zH (zG (zC hN rfl b) (op_nil (zA hN rfl) (zM fld162_0 (zA hN rfl) (zN one26 (zA hN rfl) (hx.cell rfl) (op_mkfn (cv := [(ptr u 0), (ptr k 0)]) ⟨(zA hN rfl), ⟨(zA hN rfl), trivial⟩⟩ (zj ok124 (ContF_s (g := 128) (fs := []) (cs := [(ptr u 0), (ptr k 0)]) (p := (fun y => decide (x = y))) (hW.rdw.mono (Nat.zero_le _) zx) ok128 (fun i hi m E => addS1 (v.keep0 (zQ E)) (j.keep0 (zQ E)))) ⟨(zA hN rfl), ⟨(zA hN rfl), trivial⟩⟩ ?_))))))
 rintro _ F ⟨C, rfl⟩
 have C := zQ C
 obtain ⟨hb, _⟩ := yG hb C
 have hx := hx.keep0 C
 have hW := hW.keep0 C
 have j := j.keep0 C
 rcases Bool.eq_false_or_eq_true ((Wr.any (fun y => decide (x = y)))) with H | H
 ·
  rw [H]
  refine op_not (zA hN rfl) (zB (f _ _ (wp_cond_false (zA hN rfl) (wp_skip (end_ret (ret0 rfl hd  ⟨_, rfl, ?_⟩))))))
  have ha : addW Wr x = Wr := if_pos H
  exact ⟨hb, wv, hx, hW.cast (by rw [ha]) (by rw [ha]), fun y hy => .inl hy⟩
 rw [H]
 refine op_not (zA hN rfl) (zB (f _ _ (wp_cond_true (zA hN rfl) (reg_split (hd := [_, _, _, _, _, _, _, _]) (tl := _) 8 mixed zy rfl rfl (any_env (φ := phiV [(fun uz => uz = (ptr p 3)), (fun uz => uz = (ptr p 3)), (fun uz => uz = (ptr p 3)), (fun uz => uz = (ptr p 3)), (fun uz => uz = wv), (fun uz => uz = (.string (bs x))), (fun _ => True), (fun _ => True)]) (G := fun w' => Bx w' p 164 [la, (.int .u64 stp), rv, wv, (.bool dm)] ∧ Bx w' k 9 [(.string (bs x))]) [6, 7] zy zy zy zy hN (fun m K E h => by obtain ⟨J, I⟩ := h; exact ⟨J.keep0 E, I.keep0 E⟩) ⟨hx, j⟩ (ObEs.cons ?_ (ObEs.cons ?_ (ObEs.cons ?_ (ObEs.cons ?_ (ObEs.cons ?_ (ObEs.cons ?_ (ObEs.pass rfl (ObEs.pass rfl (ObEs.nil))))))))) (by simp only [putsL_defers]) ?_)))))
 ·
  intro eA aA wA hNA hGA hbsA hdpA
  have L := (hbsA 0 rfl).trans (zL hN rfl b)
  refine zG (zC hNA rfl L) ?_
  exact obE_end rfl rfl rfl
 ·
  intro eA aA wA hNA hGA hbsA hdpA
  have L := (hbsA 0 rfl).trans (zL hN rfl b)
  refine zG (zC hNA rfl L) ?_
  exact obE_end rfl rfl rfl
 ·
  intro eA aA wA hNA hGA hbsA hdpA
  have L : Sl aA 14 (ptr p 3) := (hdpA 1 _ 14 zy rfl rfl).2 rfl
  refine op_nil (zC hNA rfl L) ?_
  exact obE_end rfl rfl rfl
 ·
  intro eA aA wA hNA hGA hbsA hdpA
  have L : Sl aA 15 (ptr p 3) := (hdpA 2 _ 15 zy rfl rfl).2 rfl
  refine zM fld162_0 (zC hNA rfl L) ?_
  exact obE_end rfl rfl rfl
 ·
  intro eA aA wA hNA hGA hbsA hdpA
  have L : Sl aA 16 (ptr p 3) := (hdpA 3 _ 16 zy rfl rfl).2 rfl
  obtain ⟨hx, j⟩ := hGA
  refine zN one26 (zC hNA rfl L) (hx.cell rfl) ?_
  exact obE_end rfl rfl rfl
 ·
  intro eA aA wA hNA hGA hbsA hdpA
  have L := (hbsA 4 rfl).trans (zU hN rfl)
  obtain ⟨hx, j⟩ := hGA
  refine zN one9 (zC hNA rfl L) (j.cell rfl) ?_
  exact obE_end rfl rfl rfl
 intro R L _ M P Q O o_ ho_; obtain rfl := zE ho_
 obtain ⟨hb, _⟩ := yG hb L
 have S : Sl M 18 (.string (bs x)) := (O 5 _ 18 zy rfl rfl).2 rfl
 refine op_bslice (e := 9) (pv := [(0, (.string (bs x)))]) (cs := [(.string (bs x))]) ⟨rfl, (zC P rfl S), trivial⟩ zy ?_
 intro Y V W X U T
 obtain ⟨hb, _⟩ := yG hb T
 have hx := (hx.keep0 L).keep0 T
 have j := (j.keep0 L).keep0 T
 refine ke_end rfl zz rfl ⟨hx, j⟩ ?_
 intro ad Z _ ac aa ae ab o_ ho_; obtain rfl := zE ho_
 obtain ⟨hb, _⟩ := yG hb Z
 have hW := ((hW.keep0 L).keep0 T).keep0 Z
 have U := U.keep0 Z
 have a : Sl ac 17 wv := (ab 4 _ 17 zy rfl rfl).2 rfl
 have b : Sl ac 19 (.slice (some ⟨V, 0, none⟩) 1 1) := (zE ((ab 6 _ 19 zy rfl rfl).1 0 rfl)).symm
 have c := hW
 refine op_append slt26 (zC aa rfl a) c (zC aa rfl b) (Src.ofRd Try.underlying26 zz (RdC.ofBx (sz := 1) (n := 1) U rfl zz) (by simp [Value.oneCell', u8v])) (by unfold maxLen; omega) zx (by first | exact Nat.le_trans (by assumption) hb.size | (have := hb.size; omega)) ?_
 intro b k a d f
 have := d.size
 have hx := (hx.keep0 Z).keepO c d zz
 have j := (j.keep0 Z).keep d (fun hh => s hh.symm)
 have hb := hb.stepL d (fun _ _ h => .inr h)
 have a : Own k base 9 1 b (Wr.length + 1) (((Wr ++ [x])).map sv) := by simpa [u8v, u16v, sv] using a
 refine ke_end rfl zz rfl ⟨hx, j⟩ ?_
 intro o d l c j m k
 have j := j.trans ((by simp only [putsL_defers] : _ = _).trans hd)
 obtain ⟨hb, _⟩ := yG hb d
 have hx := hx.keep0 d
 have a := a.keep0 d
 have d : Sl l 13 (ptr p 3) := (k 0 _ 13 rfl rfl).2 rfl
 have m : Sl l 20 b := (zE ((k 7 _ 20 rfl rfl).1 1 rfl)).symm
 refine split_end (from_seq (tl := [_, _, _]) zz zy rfl (op_nil (zC c rfl d) (zM fld162_0 (zA c rfl) ?_)))
 have hx_old := hx
 refine za (vs := [b]) (cs' := [la, (.int .u64 stp), rv, b, (.bool dm)]) size26 (zA c rfl) (zC c rfl m) a.cl rfl (by simp only [yA, yB, yC, yD, a.one]; try rfl) hx (zI rfl) rfl ?_
 intro d hx c
 have := c.size
 have a := a.keepX hx_old c zz
 have hb := hb.stepB c (.inl rfl)
 refine zB (end_ret (ret0 rfl j  ⟨_, rfl, ?_⟩))
 have ha : addW Wr x = Wr ++ [x] := if_neg (by rw [H]; decide)
 exact ⟨hb, b, hx, a.cast (by rw [ha]; simp) (by rw [ha]), sub_of_hm f zx⟩

theorem addRd {base p : Nat} {la rv wv : Value} {lab : List UInt16} {stp : Int} {D : List RD} {Wr : List (List UInt8)} {dm : Bool} {x : List UInt8} {l : List UInt16} {lv : Value} {w : World} (hbase : base ≤ w.heap.size) (hx : Bx w p 164 [la, .int .u64 stp, rv, wv, .bool dm]) (hLa : Own w base 46 1 la lab.length (lab.map u16v)) (hR : Own w base 169 2 rv D.length (D.flatMap cellsRd)) (hD : ∀ x9 ∈ D.map rdL, Own w base 46 1 x9.1 x9.2.length (x9.2.map u16v)) (hW : Own w base 9 1 wv Wr.length (Wr.map sv)) (h8 : lab.length ≤ 8 ∧ ∀ r ∈ D, r.lab.length ≤ 8) (hlv : Own w base 46 1 lv l.length (l.map u16v)) (hn9 : D.length ≤ 100000) : Ret Try.prog 100 #[(ptr p 2), (.agg #[(.string (bs x)), lv]), (.func (.func 101) #[] #[])] w (fun v' w' => Gr w w' (fun y => y = p ∨ Bl rv y) ∧ ∃ rv' D', Bx w' p 164 [la, .int .u64 stp, rv', wv, .bool dm] ∧ Own w' base 169 2 rv' D'.length (D'.flatMap cellsRd) ∧ (D' = D ∨ D' = D ++ [⟨x, lv, l⟩]) ∧ D'.map rOf = addR (D.map rOf) (x, l) ∧ (∀ y, Bl rv' y → Bl rv y ∨ w.heap.size ≤ y)) := by
 have hi_p := hx.lt
 have hb := Gr.refl w (fun y => y = p ∨ Bl rv y)
 refine enter (N := 23) Try.func100 rfl rfl (by simp) fun a hN hd hA => ?_
 have b : a.tmps.getD 0 undef = (ptr p 2) := hA 0 (by simp)
 have c : a.tmps.getD 1 undef = (.agg #[(.string (bs x)), lv]) := hA 1 (by simp)
 have d : a.tmps.getD 2 undef = (.func (.func 101) #[] #[]) := hA 2 (by simp)
 clear hA
 refine zF fun _ f => zH (op_box (cs := [(.string (bs x)), lv]) (zC hN rfl c) rfl ?_)
 intro q m s o j k
 have t : rv.ownBlock ≠ some m := fun hh => by have := (hR.lt _ hh).2; omega
 obtain ⟨hb, _⟩ := yG hb k
 have hD := all9 hD fun _ h => h.keep0 k
 refine op_box (cs := [(.func (.func 101) #[] #[])]) (zC hN rfl d) rfl ?_
 intro B v A C z u
 obtain ⟨hb, _⟩ := yG hb u
 have hlv := (hlv.keep0 k).keep0 u
 have hx := (hx.keep0 k).keep0 u
 have hR := (hR.keep0 k).keep0 u
 have hD := all9 hD fun _ h => h.keep0 u
 have j := j.keep0 u
 refine zB (f _ _ (zF fun _ f => ?_))
 refine zH (zG (zC hN rfl b) (op_nil (zA hN rfl) (zM fld160_0 (zA hN rfl) (zN one158 (zA hN rfl) (hx.cell rfl) (op_mkfn (cv := [(ptr v 0), (ptr m 0)]) ⟨(zA hN rfl), ⟨(zA hN rfl), trivial⟩⟩ (zj ok126 (ContF_r (g := 127) (fs := []) (cs := [(ptr v 0), (ptr m 0)]) (p := (fun r => decide (x = r.tab) && decide (l = r.lab))) (hR.rdw.mono (Nat.zero_le _) zx) ok127 (fun i hi F E => addR1 (r := D.getD i default) (z.keep0 (zQ E)) (j.keep0 (zQ E)) ((hlv.rdw.keep0 (zQ E)).mono (Nat.zero_le _) (by have := E.size; omega)) (((hD _ (List.mem_map.2 ⟨_, getD_mem hi, rfl⟩)).keep0 (zQ E)).rdw.mono (Nat.zero_le _) (Nat.le_refl _)))) ⟨(zA hN rfl), ⟨(zA hN rfl), trivial⟩⟩ ?_))))))
 rintro _ I ⟨H, rfl⟩
 have H := zQ H
 obtain ⟨hb, _⟩ := yG hb H
 have hlv := hlv.keep0 H
 have hx := hx.keep0 H
 have hR := hR.keep0 H
 have j := j.keep0 H
 rcases Bool.eq_false_or_eq_true ((D.any (fun r => decide (x = r.tab) && decide (l = r.lab)))) with J | J
 ·
  rw [J]
  refine op_not (zA hN rfl) (zB (f _ _ (wp_cond_false (zA hN rfl) (wp_skip (end_ret (ret0 rfl hd  ⟨_, rfl, ?_⟩))))))
  have ha : addR (D.map rOf) (x, l) = D.map rOf := if_pos (by rw [List.any_map]; exact J)
  exact ⟨hb, rv, D, hx, hR, .inl rfl, ha.symm, fun y hy => .inl hy⟩
 rw [J]
 refine op_not (zA hN rfl) (zB (f _ _ (wp_cond_true (zA hN rfl) (reg_split (hd := [_, _, _, _, _, _, _, _]) (tl := _) 8 mixed zy rfl rfl (any_env (φ := phiV [(fun uz => uz = (ptr p 2)), (fun uz => uz = (ptr p 2)), (fun uz => uz = (ptr p 2)), (fun uz => uz = (ptr p 2)), (fun uz => uz = rv), (fun uz => uz = (.agg #[(.string (bs x)), lv])), (fun _ => True), (fun _ => True)]) (G := fun w' => Bx w' p 164 [la, (.int .u64 stp), rv, wv, (.bool dm)] ∧ Bx w' m 169 [(.string (bs x)), lv]) [6, 7] zy zy zy zy hN (fun F M E h => by obtain ⟨L, K⟩ := h; exact ⟨L.keep0 E, K.keep0 E⟩) ⟨hx, j⟩ (ObEs.cons ?_ (ObEs.cons ?_ (ObEs.cons ?_ (ObEs.cons ?_ (ObEs.cons ?_ (ObEs.cons ?_ (ObEs.pass rfl (ObEs.pass rfl (ObEs.nil))))))))) (by simp only [putsL_defers]) ?_)))))
 ·
  intro eA aA wA hNA hGA hbsA hdpA
  have O := (hbsA 0 rfl).trans (zL hN rfl b)
  refine zG (zC hNA rfl O) ?_
  exact obE_end rfl rfl rfl
 ·
  intro eA aA wA hNA hGA hbsA hdpA
  have O := (hbsA 0 rfl).trans (zL hN rfl b)
  refine zG (zC hNA rfl O) ?_
  exact obE_end rfl rfl rfl
 ·
  intro eA aA wA hNA hGA hbsA hdpA
  have O : Sl aA 14 (ptr p 2) := (hdpA 1 _ 14 zy rfl rfl).2 rfl
  refine op_nil (zC hNA rfl O) ?_
  exact obE_end rfl rfl rfl
 ·
  intro eA aA wA hNA hGA hbsA hdpA
  have O : Sl aA 15 (ptr p 2) := (hdpA 2 _ 15 zy rfl rfl).2 rfl
  refine zM fld160_0 (zC hNA rfl O) ?_
  exact obE_end rfl rfl rfl
 ·
  intro eA aA wA hNA hGA hbsA hdpA
  have O : Sl aA 16 (ptr p 2) := (hdpA 3 _ 16 zy rfl rfl).2 rfl
  obtain ⟨hx, j⟩ := hGA
  refine zN one158 (zC hNA rfl O) (hx.cell rfl) ?_
  exact obE_end rfl rfl rfl
 ·
  intro eA aA wA hNA hGA hbsA hdpA
  have O := (hbsA 4 rfl).trans (zU hN rfl)
  obtain ⟨hx, j⟩ := hGA
  refine zY agg169 rfl (zC hNA rfl O) j ?_
  exact obE_end rfl rfl rfl
 intro T O _ R P S Q o_ ho_; obtain rfl := zE ho_
 obtain ⟨hb, _⟩ := yG hb O
 have hlv := hlv.keep0 O
 have U : Sl R 18 (.agg #[(.string (bs x)), lv]) := (Q 5 _ 18 zy rfl rfl).2 rfl
 refine op_bslice (e := 169) (pv := [(0, (.agg #[(.string (bs x)), lv]))]) (cs := [(.string (bs x)), lv]) ⟨rfl, (zC P rfl U), trivial⟩ (by obtain ⟨_, _, _, rfl⟩ := hlv.sl; kernel_rfl) ?_
 intro Y X aa Z W V
 obtain ⟨hb, _⟩ := yG hb V
 have hx := (hx.keep0 O).keep0 V
 have j := (j.keep0 O).keep0 V
 refine ke_end rfl zz rfl ⟨hx, j⟩ ?_
 intro ag ab _ ac ad af ae o_ ho_; obtain rfl := zE ho_
 obtain ⟨hb, _⟩ := yG hb ab
 have hlv := (hlv.keep0 V).keep0 ab
 have hR := ((hR.keep0 O).keep0 V).keep0 ab
 have W := W.keep0 ab
 have a : Sl ac 17 rv := (ae 4 _ 17 zy rfl rfl).2 rfl
 have b : Sl ac 19 (.slice (some ⟨X, 0, none⟩) 1 1) := (zE ((ae 6 _ 19 zy rfl rfl).1 0 rfl)).symm
 have c := hR
 refine op_append slt158 (zC ad rfl a) c (zC ad rfl b) (Src.ofRd Try.underlying158 zz (RdC.ofBx (sz := 2) (n := 1) W rfl zz) (by simp only [yA, yB, yC, yD, hlv.one]; try rfl)) (by unfold maxLen; omega) zx (by first | exact Nat.le_trans (by assumption) hb.size | (have := hb.size; omega)) ?_
 intro b f a d k
 have := d.size
 have hx := (hx.keep0 ab).keepO c d zz
 have j := (j.keep0 ab).keep d (fun hh => t hh.symm)
 have hb := hb.stepL d (fun _ _ h => .inr h)
 have a : Own f base 169 2 b (D.length + 1) ((D.flatMap cellsRd ++ [(.string (bs x)), lv])) := by simpa [u8v, u16v, sv] using a
 refine ke_end rfl zz rfl ⟨hx, j⟩ ?_
 intro s f q j m t o
 have m := m.trans ((by simp only [putsL_defers] : _ = _).trans hd)
 obtain ⟨hb, _⟩ := yG hb f
 have hx := hx.keep0 f
 have a := a.keep0 f
 have s : Sl q 13 (ptr p 2) := (o 0 _ 13 rfl rfl).2 rfl
 have t : Sl q 20 b := (zE ((o 7 _ 20 rfl rfl).1 1 rfl)).symm
 refine split_end (from_seq (tl := [_, _, _]) zz zy rfl (op_nil (zC j rfl s) (zM fld160_0 (zA j rfl) ?_)))
 have hx_old := hx
 refine za (vs := [b]) (cs' := [la, (.int .u64 stp), b, wv, (.bool dm)]) size158 (zA j rfl) (zC j rfl t) a.cl rfl (by simp only [yA, yB, yC, yD, a.one]; try rfl) hx (zI rfl) rfl ?_
 intro o hx j
 have := j.size
 have hlv := ((hlv.keepT c d zz).keep0 f).keepX hx_old j zz
 have a := a.keepX hx_old j zz
 have hb := hb.stepB j (.inl rfl)
 refine zB (end_ret (ret0 rfl m  ⟨_, rfl, ?_⟩))
 have ha : addR (D.map rOf) (x, l) = D.map rOf ++ [(x, l)] := if_neg (by rw [List.any_map]; intro c; exact absurd (c.symm.trans J) zz)
 exact ⟨hb, b, _, hx, a.cast (by simp) (by simp [List.flatMap_append, cellsRd]), .inr rfl, by rw [ha]; simp [rOf], sub_of_hm k zx⟩

end Go.Proofs.Ytmhdbphpmgjpcaa

namespace Go.Proofs.Ytmhdbphpmgjpcaa
open Go.Gx Go.RowKit

theorem apart_pw {w : World} {base p e sz n : Nat} {v u : Value} {cs cs2 tc : List Value} {e2 sz2 n2 : Nat} (O : Own w base e sz v n cs) (hx : Bx w p 164 tc) (O2 : Own w base e2 sz2 u n2 cs2) (h1 : e ≠ 164) (h2 : e ≠ e2) : Dj (Bl v) (fun y => y = p ∨ Bl u y) := fun y hy hf => by
  rcases hf with rfl | hf
  · exact O.neB hx (fun q => h1 q.symm) hy
  · exact O.notOwn O2 h2 y hy hf
theorem addS_T {w : World} {base p : Nat} {t : TX} {F : Nat → Prop} (x : List UInt8) (h : TxR w base p t F) (hbase : base ≤ w.heap.size) (ht : TOk t) (hn : t.writes.length ≤ 100000) :
    Ret Try.prog 103 #[ptr p 3, .string (bs x), (Value.func (.func 104) #[] #[])] w (fun v' w' => Gr w w' F ∧ ∃ F', TxR w' base p { t with writes := addW t.writes x } F' ∧ ∀ y, F' y → F y ∨ w.heap.size ≤ y) := by
  obtain ⟨la, rv, wv, D, h0, hx, hL, hR, hD, hW, hDe, hF⟩ := h.parts
  refine (addS (x := x) hbase hx hL hR hD hW ⟨ht.1, ht.rd hDe⟩ hn).mono fun v' w' q => ?_
  obtain ⟨E, wv', hx', hW', hsub⟩ := q
  refine ⟨E.mono fun y _ hy => (hF y).2 ?_, _, TxR.mk' (T := { t with writes := addW t.writes x }) h0 hx' (hL.keepG E (apart_pw hL hx hW (by decide) (by decide))) (hR.keepG E (apart_pw hR hx hW (by decide) (by decide))) (fun x9 hx9 => (hD x9 hx9).keepG E (apart_pw (hD x9 hx9) hx hW (by decide) (by decide))) hW' hDe, fun y hy => ?_⟩
  · rcases hy with hy | hy
    · exact .inl hy
    · exact .inr (.inr (.inr (.inl hy)))
  · rcases hy with hy | hy | hy | hy | hy
    · exact .inl ((hF y).2 (.inl hy))
    · exact .inl ((hF y).2 (.inr (.inl hy)))
    · exact .inl ((hF y).2 (.inr (.inr (.inl hy))))
    · exact (hsub y hy).imp (fun q => (hF y).2 (.inr (.inr (.inr (.inl q))))) id
    · exact .inl ((hF y).2 (.inr (.inr (.inr (.inr hy)))))
theorem addR_T {w : World} {base p : Nat} {t : TX} {F : Nat → Prop} (x : List UInt8) {l : List UInt16} {lv : Value} (h : TxR w base p t F) (hlv : Own w base 46 1 lv l.length (l.map u16v)) (hbase : base ≤ w.heap.size) (ht : TOk t) (hn : t.reads.length ≤ 100000) :
    Ret Try.prog 100 #[ptr p 2, .agg #[.string (bs x), lv], (Value.func (.func 101) #[] #[])] w (fun v' w' => Gr w w' F ∧ ∃ F', TxR w' base p { t with reads := addR t.reads (x, l) } F' ∧ ∀ y, F' y → F y ∨ Bl lv y ∨ w.heap.size ≤ y) := by
  obtain ⟨la, rv, wv, D, h0, hx, hL, hR, hD, hW, hDe, hF⟩ := h.parts
  have hn2 : D.length ≤ 100000 := by rw [← hDe] at hn; simpa using hn
  refine (addRd (x := x) hbase hx hL hR hD hW ⟨ht.1, ht.rd hDe⟩ hlv hn2).mono fun v' w' q => ?_
  obtain ⟨E, rv', D', hx', hR', hD', hDe', hsub⟩ := q
  have hD2 : ∀ x9 ∈ D'.map rdL, Own w' base 46 1 x9.1 x9.2.length (x9.2.map u16v) := by
    intro x9 hx9
    have hold : ∀ x9 ∈ D.map rdL, Own w' base 46 1 x9.1 x9.2.length (x9.2.map u16v) := fun x9 hx9 => (hD x9 hx9).keepG E (apart_pw (hD x9 hx9) hx hR (by decide) (by decide))
    rcases hD' with rfl | rfl
    · exact hold x9 hx9
    · rw [List.map_append] at hx9
      rcases List.mem_append.1 hx9 with q | q
      · exact hold x9 q
      · obtain rfl : x9 = (lv, l) := by simpa [rdL] using q
        exact hlv.keepG E (apart_pw hlv hx hR (by decide) (by decide))
  refine ⟨E.mono fun y _ hy => (hF y).2 ?_, _, TxR.mk' (T := { t with reads := addR t.reads (x, l) }) h0 hx' (hL.keepG E (apart_pw hL hx hR (by decide) (by decide))) hR' hD2 (hW.keepG E (apart_pw hW hx hR (by decide) (by decide))) (by rw [hDe', hDe]), fun y hy => ?_⟩
  · rcases hy with hy | hy
    · exact .inl hy
    · exact .inr (.inr (.inl hy))
  · rcases hy with hy | hy | hy | hy | ⟨r, hr, hy⟩
    · exact .inl ((hF y).2 (.inl hy))
    · exact .inl ((hF y).2 (.inr (.inl hy)))
    · exact (hsub y hy).imp (fun q => (hF y).2 (.inr (.inr (.inl q)))) .inr
    · exact .inl ((hF y).2 (.inr (.inr (.inr (.inl hy)))))
    · rcases hD' with rfl | rfl
      · exact .inl ((hF y).2 (.inr (.inr (.inr (.inr ⟨r, hr, hy⟩)))))
      · rcases List.mem_append.1 hr with q | q
        · exact .inl ((hF y).2 (.inr (.inr (.inr (.inr ⟨r, q, hy⟩)))))
        · obtain rfl : r = ⟨x, lv, l⟩ := by simpa using q
          exact .inr (.inl hy)
end Go.Proofs.Ytmhdbphpmgjpcaa

namespace Go.Proofs.Ytmhdbphpmgjpcaa
open Go.Gx Go.RowKit
attribute [local irreducible] wpList wpStill Code.wp Calls

theorem at_hit {k m p : Nat} {es : List (Int × Nat)} (n : Int) {w : World} (hk : Bx w k 121 [.map (some m)]) (hM : MapC (.int .i64) pv w m es) (hg : mget es n = some p) : Ret Try.prog 95 #[(ptr k 0), (.int .i64 n)] w (fun v' w' => v' = .tuple #[ptr p 0, .int .i64 0] ∧ w' = w) := by
 refine enter (N := 22) Try.func95 rfl rfl (by simp) fun a hN hd hA => ?_
 have b : a.tmps.getD 0 undef = (ptr k 0) := hA 0 (by simp)
 have c : a.tmps.getD 1 undef = (.int .i64 n) := hA 1 (by simp)
 clear hA
 refine zF fun _ a => zH (zD rfl (zD rfl (zB (a _ _ (zF fun _ a => zF fun _ d => zH ?_)))))
 refine zG (zC hN rfl b) (op_peq_some ptrt93 (zA hN rfl) rfl (zB (d _ _ (wp_cond_false (zA hN rfl) (wp_skip (a _ _ (zF fun _ a => zH (zG (zC hN rfl b) (op_nil (zA hN rfl) (zM fld121_0 (zA hN rfl) (zN one119 (zA hN rfl) (hk.cell rfl) (zG (zC hN rfl c) (op_look2_hit (k := n) (v := p) Try.underlying119 (Go.Gx.key_int Try.underlying3) zero155 (zA hN rfl) (zA hN rfl) hM hg ?_)))))))))))))
 refine zG (zA hN rfl) (zW (zA hN rfl) rfl (zW (zA hN rfl) rfl (zD (zA hN rfl) (zD (zA hN rfl) (zB (a _ _ (zF fun _ a => zF fun _ d => zH (zG (zA hN rfl) ?_))))))))
 refine op_not (zA hN rfl) (zB (d _ _ (wp_cond_false (zA hN rfl) (wp_skip (a _ _ (zF fun _ a => zH (zG (zA hN rfl) (zD (zA hN rfl) (zD rfl (zB (a _ _ (wp_ret (ret2 rfl hd (zA hN rfl) (zA hN rfl) ⟨_, rfl, ?_⟩)))))))))))))
 exact ⟨rfl, rfl⟩

theorem at_miss {k m : Nat} {es : List (Int × Nat)} (n : Int) {w : World} (hk : Bx w k 121 [.map (some m)]) (hM : MapC (.int .i64) pv w m es) (hg : mget es n = none) : Ret Try.prog 95 #[(ptr k 0), (.int .i64 n)] w (fun v' w' => v' = .tuple #[.pointer none, .int .i64 18] ∧ w' = w) := by
 refine enter (N := 22) Try.func95 rfl rfl (by simp) fun a hN hd hA => ?_
 have b : a.tmps.getD 0 undef = (ptr k 0) := hA 0 (by simp)
 have c : a.tmps.getD 1 undef = (.int .i64 n) := hA 1 (by simp)
 clear hA
 refine zF fun _ a => zH (zD rfl (zD rfl (zB (a _ _ (zF fun _ a => zF fun _ d => ?_)))))
 refine zH (zG (zC hN rfl b) (op_peq_some ptrt93 (zA hN rfl) rfl (zB (d _ _ (wp_cond_false (zA hN rfl) (wp_skip (a _ _ (zF fun _ a => zH (zG (zC hN rfl b) (op_nil (zA hN rfl) (zM fld121_0 (zA hN rfl) (zN one119 (zA hN rfl) (hk.cell rfl) (zG (zC hN rfl c) ?_)))))))))))))
 refine op_look2_miss (k := n) Try.underlying119 (Go.Gx.key_int Try.underlying3) zero155 (zA hN rfl) (zA hN rfl) hM hg (zG (zA hN rfl) (zW (zA hN rfl) rfl (zW (zA hN rfl) rfl (zD (zA hN rfl) (zD (zA hN rfl) (zB (a _ _ (zF fun _ a => zF fun _ d => zH ?_))))))))
 refine zG (zA hN rfl) (op_not (zA hN rfl) (zB (d _ _ (wp_cond_true (zA hN rfl) (zF fun _ d => zH (zD rfl (zD rfl (zB (d _ _ (wp_ret (zO ( (ret2 rfl hd (zA hN rfl) (zA hN rfl) ⟨_, rfl, ?_⟩)))))))))))))
 exact ⟨rfl, rfl⟩

theorem at_nomap {k : Nat} (n : Int) {w : World} (hk : Bx w k 121 [.map none]) : Ret Try.prog 95 #[(ptr k 0), (.int .i64 n)] w (fun v' w' => v' = .tuple #[.pointer none, .int .i64 18] ∧ w' = w) := by
 refine enter (N := 22) Try.func95 rfl rfl (by simp) fun a hN hd hA => ?_
 have b : a.tmps.getD 0 undef = (ptr k 0) := hA 0 (by simp)
 have c : a.tmps.getD 1 undef = (.int .i64 n) := hA 1 (by simp)
 clear hA
 refine zF fun _ a => zH (zD rfl (zD rfl (zB (a _ _ (zF fun _ a => zF fun _ d => ?_)))))
 refine zH (zG (zC hN rfl b) (op_peq_some ptrt93 (zA hN rfl) rfl (zB (d _ _ (wp_cond_false (zA hN rfl) (wp_skip (a _ _ (zF fun _ a => zH (zG (zC hN rfl b) (op_nil (zA hN rfl) (zM fld121_0 (zA hN rfl) (zN one119 (zA hN rfl) (hk.cell rfl) (zG (zC hN rfl c) ?_)))))))))))))
 refine op_look2_nil (k := n) Try.underlying119 (Go.Gx.key_int Try.underlying3) zero155 (zA hN rfl) (zA hN rfl) (zG (zA hN rfl) (zW (zA hN rfl) rfl (zW (zA hN rfl) rfl (zD (zA hN rfl) (zD (zA hN rfl) (zB (a _ _ (zF fun _ a => zF fun _ d => zH ?_))))))))
 refine zG (zA hN rfl) (op_not (zA hN rfl) (zB (d _ _ (wp_cond_true (zA hN rfl) (zF fun _ d => zH (zD rfl (zD rfl (zB (d _ _ (wp_ret (zO ( (ret2 rfl hd (zA hN rfl) (zA hN rfl) ⟨_, rfl, ?_⟩)))))))))))))
 exact ⟨rfl, rfl⟩

theorem Leave_miss {n : Int} {k m : Nat} {es : List (Int × Nat)} {w : World} (hk : Bx w k 121 [.map (some m)]) (hM : MapC (.int .i64) pv w m es) (hg : mget es n = none)  : Ret Try.prog 57 #[(ptr k 0), (.int .i64 n)] w (fun v' w' => Below w.heap.size w w' ∧ v' = .int .i64 18) := by
 have hb := Below.refl w.heap.size w
 refine enter (N := 21) Try.func57 rfl rfl (by simp) fun a hN hd hA => ?_
 have b : a.tmps.getD 0 undef = (ptr k 0) := hA 0 (by simp)
 have c : a.tmps.getD 1 undef = (.int .i64 n) := hA 1 (by simp)
 clear hA
 refine zF fun _ a => zH (zD rfl ?_)
 refine zB (a _ _ (zF fun _ a => zH (zG (zC hN rfl b) (zG (zC hN rfl c) (ze (vs := [(ptr k 0), (.int .i64 n)]) ok95 ⟨(zA hN rfl), ⟨(zA hN rfl), trivial⟩⟩ (Ret.flip (at_miss n hk hM hg)) ?_)))))
 rintro _ _ ⟨rfl, rfl⟩
 refine zG (zA hN rfl) (zW (zA hN rfl) rfl (zW (zA hN rfl) rfl (zD (zA hN rfl) (zD (zA hN rfl) (zB (a _ _ (zF fun _ a => zF fun _ b => ?_)))))))
 refine zH (zG (zA hN rfl) (op_bin (v := .bool false) (zA hN rfl) rfl (by rw [binOp_eql]; rfl) (zB (b _ _ (wp_cond_false (zA hN rfl) (wp_skip (a _ _ (zF fun _ a => zH (zG (zA hN rfl) (zD (zA hN rfl) (zB (a _ _ (wp_ret (ret1 rfl hd (zA hN rfl) ⟨_, rfl, ?_⟩))))))))))))))
 exact ⟨hb, rfl⟩

theorem Doomed_miss {n : Int} {k m : Nat} {es : List (Int × Nat)} {w : World} (hk : Bx w k 121 [.map (some m)]) (hM : MapC (.int .i64) pv w m es) (hg : mget es n = none)  : Ret Try.prog 62 #[(ptr k 0), (.int .i64 n)] w (fun v' w' => Below w.heap.size w w' ∧ v' = .bool false) := by
 have hb := Below.refl w.heap.size w
 refine enter (N := 21) Try.func62 rfl rfl (by simp) fun a hN hd hA => ?_
 have c : a.tmps.getD 0 undef = (ptr k 0) := hA 0 (by simp)
 have d : a.tmps.getD 1 undef = (.int .i64 n) := hA 1 (by simp)
 clear hA
 refine zF fun _ a => zH (zD rfl ?_)
 refine zB (a _ _ (zF fun _ a => zH (zG (zC hN rfl c) (zG (zC hN rfl d) (ze (vs := [(ptr k 0), (.int .i64 n)]) ok95 ⟨(zA hN rfl), ⟨(zA hN rfl), trivial⟩⟩ (Ret.flip (at_miss n hk hM hg)) ?_)))))
 rintro _ _ ⟨rfl, rfl⟩
 refine zG (zA hN rfl) (zW (zA hN rfl) rfl (zW (zA hN rfl) rfl (zD (zA hN rfl) (zD (zA hN rfl) (zB (a _ _ (zF fun _ a => zH (zG (zA hN rfl) ?_))))))))
 refine op_bin (v := .bool false) (zA hN rfl) rfl (by rw [binOp_eql]; rfl) (zG (zA hN rfl) (zR (j := 2) (dj := 15) (b := true) rfl rfl rfl (zA hN rfl) rfl rfl (zR (j := 2) (dj := 15) (b := true) rfl rfl rfl (zA hN rfl) rfl rfl (zR (j := 2) (dj := 15) (b := true) rfl rfl rfl (zA hN rfl) rfl rfl (zR (j := 2) (dj := 15) (b := true) rfl rfl rfl (zA hN rfl) rfl rfl (zd (zA hN rfl) rfl (zD (zA hN rfl) (zB (a _ _ (wp_ret (ret1 rfl hd (zA hN rfl) ⟨_, rfl, ?_⟩)))))))))))
 exact ⟨hb, rfl⟩

theorem Wrote_miss {n : Int} {k m : Nat} {es : List (Int × Nat)} {w : World} (hk : Bx w k 121 [.map (some m)]) (hM : MapC (.int .i64) pv w m es) (hg : mget es n = none)  : Ret Try.prog 70 #[(ptr k 0), (.int .i64 n)] w (fun v' w' => Below w.heap.size w w' ∧ v' = .slice none 0 0) := by
 have hb := Below.refl w.heap.size w
 refine enter (N := 21) Try.func70 rfl rfl (by simp) fun a hN hd hA => ?_
 have b : a.tmps.getD 0 undef = (ptr k 0) := hA 0 (by simp)
 have c : a.tmps.getD 1 undef = (.int .i64 n) := hA 1 (by simp)
 clear hA
 refine zF fun _ a => zH (zD rfl ?_)
 refine zB (a _ _ (zF fun _ a => zH (zG (zC hN rfl b) (zG (zC hN rfl c) (ze (vs := [(ptr k 0), (.int .i64 n)]) ok95 ⟨(zA hN rfl), ⟨(zA hN rfl), trivial⟩⟩ (Ret.flip (at_miss n hk hM hg)) ?_)))))
 rintro _ _ ⟨rfl, rfl⟩
 refine zG (zA hN rfl) (zW (zA hN rfl) rfl (zW (zA hN rfl) rfl (zD (zA hN rfl) (zD (zA hN rfl) (zB (a _ _ (zF fun _ a => ?_)))))))
 refine zF fun _ a => zH (zG (zA hN rfl) (op_bin (v := .bool true) (zA hN rfl) rfl (by rw [binOp_neq]; rfl) (zB (a _ _ (wp_cond_true (zA hN rfl) (zF fun _ a => zH (zD rfl (zB (a _ _ (wp_ret (zO ( (ret1 rfl hd (zA hN rfl) ⟨_, rfl, ?_⟩)))))))))))))
 exact ⟨hb, rfl⟩

theorem Move_miss {lv : Value} {s : Int} {n : Int} {k m : Nat} {es : List (Int × Nat)} {w : World} (hk : Bx w k 121 [.map (some m)]) (hM : MapC (.int .i64) pv w m es) (hg : mget es n = none)  : Ret Try.prog 59 #[(ptr k 0), (.int .i64 n), lv, (.int .u64 s)] w (fun v' w' => Below w.heap.size w w' ∧ v' = .int .i64 18) := by
 have hb := Below.refl w.heap.size w
 refine enter (N := 38) Try.func59 rfl rfl (by simp) fun a hN hd hA => ?_
 have b : a.tmps.getD 0 undef = (ptr k 0) := hA 0 (by simp)
 have c : a.tmps.getD 1 undef = (.int .i64 n) := hA 1 (by simp)
 clear hA
 refine zF fun _ a => zH (zD rfl ?_)
 refine zB (a _ _ (zF fun _ a => zH (zG (zC hN rfl b) (zG (zC hN rfl c) (ze (vs := [(ptr k 0), (.int .i64 n)]) ok95 ⟨(zA hN rfl), ⟨(zA hN rfl), trivial⟩⟩ (Ret.flip (at_miss n hk hM hg)) ?_)))))
 rintro _ _ ⟨rfl, rfl⟩
 refine zG (zA hN rfl) (zW (zA hN rfl) rfl (zW (zA hN rfl) rfl (zD (zA hN rfl) (zD (zA hN rfl) (zB (a _ _ (zF fun _ a => wp_block (zF fun _ b => zH ?_))))))))
 refine zG (zA hN rfl) (op_bin (v := .bool true) (zA hN rfl) rfl (by rw [binOp_neq]; rfl) (zD (zA hN rfl) (zB (b _ _ (wp_cond_true (zA hN rfl) (zF fun _ b => zH (zG (zA hN rfl) (zD (zA hN rfl) (zB (b _ _ (wp_ret (zb (zO ( (ret1 rfl hd (zA hN rfl) ⟨_, rfl, ?_⟩)))))))))))))))
 exact ⟨hb, rfl⟩

theorem Leave_nomap {n : Int} {k : Nat} {w : World} (hk : Bx w k 121 [.map none])  : Ret Try.prog 57 #[(ptr k 0), (.int .i64 n)] w (fun v' w' => Below w.heap.size w w' ∧ v' = .int .i64 18) := by
 have hb := Below.refl w.heap.size w
 refine enter (N := 21) Try.func57 rfl rfl (by simp) fun a hN hd hA => ?_
 have b : a.tmps.getD 0 undef = (ptr k 0) := hA 0 (by simp)
 have c : a.tmps.getD 1 undef = (.int .i64 n) := hA 1 (by simp)
 clear hA
 refine zF fun _ a => zH (zD rfl ?_)
 refine zB (a _ _ (zF fun _ a => zH (zG (zC hN rfl b) (zG (zC hN rfl c) (ze (vs := [(ptr k 0), (.int .i64 n)]) ok95 ⟨(zA hN rfl), ⟨(zA hN rfl), trivial⟩⟩ (Ret.flip (at_nomap n hk)) ?_)))))
 rintro _ _ ⟨rfl, rfl⟩
 refine zG (zA hN rfl) (zW (zA hN rfl) rfl (zW (zA hN rfl) rfl (zD (zA hN rfl) (zD (zA hN rfl) (zB (a _ _ (zF fun _ a => zF fun _ b => ?_)))))))
 refine zH (zG (zA hN rfl) (op_bin (v := .bool false) (zA hN rfl) rfl (by rw [binOp_eql]; rfl) (zB (b _ _ (wp_cond_false (zA hN rfl) (wp_skip (a _ _ (zF fun _ a => zH (zG (zA hN rfl) (zD (zA hN rfl) (zB (a _ _ (wp_ret (ret1 rfl hd (zA hN rfl) ⟨_, rfl, ?_⟩))))))))))))))
 exact ⟨hb, rfl⟩

theorem Doomed_nomap {n : Int} {k : Nat} {w : World} (hk : Bx w k 121 [.map none])  : Ret Try.prog 62 #[(ptr k 0), (.int .i64 n)] w (fun v' w' => Below w.heap.size w w' ∧ v' = .bool false) := by
 have hb := Below.refl w.heap.size w
 refine enter (N := 21) Try.func62 rfl rfl (by simp) fun a hN hd hA => ?_
 have c : a.tmps.getD 0 undef = (ptr k 0) := hA 0 (by simp)
 have d : a.tmps.getD 1 undef = (.int .i64 n) := hA 1 (by simp)
 clear hA
 refine zF fun _ a => zH (zD rfl ?_)
 refine zB (a _ _ (zF fun _ a => zH (zG (zC hN rfl c) (zG (zC hN rfl d) (ze (vs := [(ptr k 0), (.int .i64 n)]) ok95 ⟨(zA hN rfl), ⟨(zA hN rfl), trivial⟩⟩ (Ret.flip (at_nomap n hk)) ?_)))))
 rintro _ _ ⟨rfl, rfl⟩
 refine zG (zA hN rfl) (zW (zA hN rfl) rfl (zW (zA hN rfl) rfl (zD (zA hN rfl) (zD (zA hN rfl) (zB (a _ _ (zF fun _ a => zH (zG (zA hN rfl) ?_))))))))
 refine op_bin (v := .bool false) (zA hN rfl) rfl (by rw [binOp_eql]; rfl) (zG (zA hN rfl) (zR (j := 2) (dj := 15) (b := true) rfl rfl rfl (zA hN rfl) rfl rfl (zR (j := 2) (dj := 15) (b := true) rfl rfl rfl (zA hN rfl) rfl rfl (zR (j := 2) (dj := 15) (b := true) rfl rfl rfl (zA hN rfl) rfl rfl (zR (j := 2) (dj := 15) (b := true) rfl rfl rfl (zA hN rfl) rfl rfl (zd (zA hN rfl) rfl (zD (zA hN rfl) (zB (a _ _ (wp_ret (ret1 rfl hd (zA hN rfl) ⟨_, rfl, ?_⟩)))))))))))
 exact ⟨hb, rfl⟩

theorem Wrote_nomap {n : Int} {k : Nat} {w : World} (hk : Bx w k 121 [.map none])  : Ret Try.prog 70 #[(ptr k 0), (.int .i64 n)] w (fun v' w' => Below w.heap.size w w' ∧ v' = .slice none 0 0) := by
 have hb := Below.refl w.heap.size w
 refine enter (N := 21) Try.func70 rfl rfl (by simp) fun a hN hd hA => ?_
 have b : a.tmps.getD 0 undef = (ptr k 0) := hA 0 (by simp)
 have c : a.tmps.getD 1 undef = (.int .i64 n) := hA 1 (by simp)
 clear hA
 refine zF fun _ a => zH (zD rfl ?_)
 refine zB (a _ _ (zF fun _ a => zH (zG (zC hN rfl b) (zG (zC hN rfl c) (ze (vs := [(ptr k 0), (.int .i64 n)]) ok95 ⟨(zA hN rfl), ⟨(zA hN rfl), trivial⟩⟩ (Ret.flip (at_nomap n hk)) ?_)))))
 rintro _ _ ⟨rfl, rfl⟩
 refine zG (zA hN rfl) (zW (zA hN rfl) rfl (zW (zA hN rfl) rfl (zD (zA hN rfl) (zD (zA hN rfl) (zB (a _ _ (zF fun _ a => ?_)))))))
 refine zF fun _ a => zH (zG (zA hN rfl) (op_bin (v := .bool true) (zA hN rfl) rfl (by rw [binOp_neq]; rfl) (zB (a _ _ (wp_cond_true (zA hN rfl) (zF fun _ a => zH (zD rfl (zB (a _ _ (wp_ret (zO ( (ret1 rfl hd (zA hN rfl) ⟨_, rfl, ?_⟩)))))))))))))
 exact ⟨hb, rfl⟩

theorem Move_nomap {lv : Value} {s : Int} {n : Int} {k : Nat} {w : World} (hk : Bx w k 121 [.map none])  : Ret Try.prog 59 #[(ptr k 0), (.int .i64 n), lv, (.int .u64 s)] w (fun v' w' => Below w.heap.size w w' ∧ v' = .int .i64 18) := by
 have hb := Below.refl w.heap.size w
 refine enter (N := 38) Try.func59 rfl rfl (by simp) fun a hN hd hA => ?_
 have b : a.tmps.getD 0 undef = (ptr k 0) := hA 0 (by simp)
 have c : a.tmps.getD 1 undef = (.int .i64 n) := hA 1 (by simp)
 clear hA
 refine zF fun _ a => zH (zD rfl ?_)
 refine zB (a _ _ (zF fun _ a => zH (zG (zC hN rfl b) (zG (zC hN rfl c) (ze (vs := [(ptr k 0), (.int .i64 n)]) ok95 ⟨(zA hN rfl), ⟨(zA hN rfl), trivial⟩⟩ (Ret.flip (at_nomap n hk)) ?_)))))
 rintro _ _ ⟨rfl, rfl⟩
 refine zG (zA hN rfl) (zW (zA hN rfl) rfl (zW (zA hN rfl) rfl (zD (zA hN rfl) (zD (zA hN rfl) (zB (a _ _ (zF fun _ a => wp_block (zF fun _ b => zH ?_))))))))
 refine zG (zA hN rfl) (op_bin (v := .bool true) (zA hN rfl) rfl (by rw [binOp_neq]; rfl) (zD (zA hN rfl) (zB (b _ _ (wp_cond_true (zA hN rfl) (zF fun _ b => zH (zG (zA hN rfl) (zD (zA hN rfl) (zB (b _ _ (wp_ret (zb (zO ( (ret1 rfl hd (zA hN rfl) ⟨_, rfl, ?_⟩)))))))))))))))
 exact ⟨hb, rfl⟩

theorem Leave_hit {n : Int} {k m p : Nat} {es : List (Int × Nat)} {w : World} (hk : Bx w k 121 [.map (some m)]) (hM : MapC (.int .i64) pv w m es) (hg : mget es n = some p)  : Ret Try.prog 57 #[(ptr k 0), (.int .i64 n)] w (fun v' w' => w.grownBy w' (some m) ∧ v' = .int .i64 0 ∧ MapC (.int .i64) pv w' m (mdel es n)) := by
 have hi_m := hM.lt
 have hb := grown_refl w (some m)
 refine enter (N := 21) Try.func57 rfl rfl (by simp) fun a hN hd hA => ?_
 have b : a.tmps.getD 0 undef = (ptr k 0) := hA 0 (by simp)
 have c : a.tmps.getD 1 undef = (.int .i64 n) := hA 1 (by simp)
 clear hA
 refine zF fun _ a => zH (zD rfl ?_)
 refine zB (a _ _ (zF fun _ a => zH (zG (zC hN rfl b) (zG (zC hN rfl c) (ze (vs := [(ptr k 0), (.int .i64 n)]) ok95 ⟨(zA hN rfl), ⟨(zA hN rfl), trivial⟩⟩ (Ret.flip (at_hit n hk hM hg)) ?_)))))
 rintro _ _ ⟨rfl, rfl⟩
 refine zG (zA hN rfl) (zW (zA hN rfl) rfl (zW (zA hN rfl) rfl (zD (zA hN rfl) (zD (zA hN rfl) (zB (a _ _ (zF fun _ a => ?_)))))))
 refine zF fun _ d => zH (zG (zA hN rfl) (op_bin (v := .bool true) (zA hN rfl) rfl (by rw [binOp_eql]; rfl) (zB (d _ _ (wp_cond_true (zA hN rfl) (zH (zG (zC hN rfl b) (op_nil (zA hN rfl) (zM fld121_0 (zA hN rfl) (zN one119 (zA hN rfl) (hk.cell rfl) (zG (zC hN rfl c) (op_mapdel0 (k := n) Try.underlying119 (Go.Gx.key_int Try.underlying3) (zA hN rfl) (zA hN rfl) hM ?_))))))))))))
 intro d c b
 have := b.size
 have hb := grown_trans hb b
 refine zB (a _ _ (zF fun _ a => zH (zG (zA hN rfl) (zD (zA hN rfl) (zB (a _ _ (wp_ret (ret1 rfl hd (zA hN rfl) ⟨_, rfl, ?_⟩))))))))
 exact ⟨hb, rfl, c⟩

theorem Doomed_hit {base : Nat} {la rv wv : Value} {lab : List UInt16} {stp : Int} {D : List RD} {Wr : List (List UInt8)} {dm : Bool} {n : Int} {k m p : Nat} {es : List (Int × Nat)} {w : World} (hk : Bx w k 121 [.map (some m)]) (hM : MapC (.int .i64) pv w m es) (hg : mget es n = some p) (hx : Bx w p 164 [la, .int .u64 stp, rv, wv, .bool dm]) : Ret Try.prog 62 #[(ptr k 0), (.int .i64 n)] w (fun v' w' => Below w.heap.size w w' ∧ v' = .bool dm) := by
 have hb := Below.refl w.heap.size w
 refine enter (N := 21) Try.func62 rfl rfl (by simp) fun a hN hd hA => ?_
 have c : a.tmps.getD 0 undef = (ptr k 0) := hA 0 (by simp)
 have d : a.tmps.getD 1 undef = (.int .i64 n) := hA 1 (by simp)
 clear hA
 refine zF fun _ a => zH (zD rfl ?_)
 refine zB (a _ _ (zF fun _ a => zH (zG (zC hN rfl c) (zG (zC hN rfl d) (ze (vs := [(ptr k 0), (.int .i64 n)]) ok95 ⟨(zA hN rfl), ⟨(zA hN rfl), trivial⟩⟩ (Ret.flip (at_hit n hk hM hg)) ?_)))))
 rintro _ _ ⟨rfl, rfl⟩
 refine zG (zA hN rfl) (zW (zA hN rfl) rfl ?_)
 refine zW (zA hN rfl) rfl (zD (zA hN rfl) (zD (zA hN rfl) (zB (a _ _ (zF fun _ a => zH (zG (zA hN rfl) (op_bin (v := .bool true) (zA hN rfl) rfl (by rw [binOp_eql]; rfl) (zG (zA hN rfl) (zS (j := 2) (dj := 15) (b := true) rfl rfl rfl (zA hN rfl) (zG (zA hN rfl) ?_))))))))))
 refine zS (j := 2) (dj := 15) (b := true) rfl rfl rfl (zA hN rfl) (op_nil (zA hN rfl) (zS (j := 2) (dj := 15) (b := true) rfl rfl rfl (zA hN rfl) (zM fld164_4 (zA hN rfl) (zS (j := 2) (dj := 15) (b := true) rfl rfl rfl (zA hN rfl) (zN one4 (zA hN rfl) (hx.cell rfl) (zc (zA hN rfl) (zA hN rfl) (zD (zA hN rfl) (zB (a _ _ (wp_ret (ret1 rfl hd (zA hN rfl) ⟨_, rfl, ?_⟩)))))))))))
 exact ⟨hb, rfl⟩

theorem Wrote_hit {base : Nat} {la rv wv : Value} {lab : List UInt16} {stp : Int} {D : List RD} {Wr : List (List UInt8)} {dm : Bool} {n : Int} {k m p : Nat} {es : List (Int × Nat)} {w : World} (hk : Bx w k 121 [.map (some m)]) (hM : MapC (.int .i64) pv w m es) (hg : mget es n = some p) (hbase : base ≤ w.heap.size) (hx : Bx w p 164 [la, .int .u64 stp, rv, wv, .bool dm]) (hW : Own w base 9 1 wv Wr.length (Wr.map sv)) (hn9 : Wr.length ≤ 100000) : Ret Try.prog 70 #[(ptr k 0), (.int .i64 n)] w (fun v' w' => Below w.heap.size w w' ∧ Own w' w.heap.size 9 1 v' Wr.length (Wr.map sv)) := by
 have hb := Below.refl w.heap.size w
 refine enter (N := 21) Try.func70 rfl rfl (by simp) fun a hN hd hA => ?_
 have b : a.tmps.getD 0 undef = (ptr k 0) := hA 0 (by simp)
 have c : a.tmps.getD 1 undef = (.int .i64 n) := hA 1 (by simp)
 clear hA
 refine zF fun _ a => zH (zD rfl ?_)
 refine zB (a _ _ (zF fun _ a => zH (zG (zC hN rfl b) (zG (zC hN rfl c) (ze (vs := [(ptr k 0), (.int .i64 n)]) ok95 ⟨(zA hN rfl), ⟨(zA hN rfl), trivial⟩⟩ (Ret.flip (at_hit n hk hM hg)) ?_)))))
 rintro _ _ ⟨rfl, rfl⟩
 refine zG (zA hN rfl) (zW (zA hN rfl) rfl ?_)
 refine zW (zA hN rfl) rfl (zD (zA hN rfl) (zD (zA hN rfl) (zB (a _ _ (zF fun _ a => zF fun _ b => zH (zG (zA hN rfl) (op_bin (v := .bool false) (zA hN rfl) rfl (by rw [binOp_neq]; rfl) (zB (b _ _ (wp_cond_false (zA hN rfl) (wp_skip (a _ _ (zF fun _ a => ?_)))))))))))))
 refine zH (zG (zA hN rfl) (op_nil (zA hN rfl) (zM fld164_3 (zA hN rfl) (zM fld162_0 (zA hN rfl) (zN one26 (zA hN rfl) (hx.cell rfl) (zj ok72 (Clone_s Wr _ _ zx (hW.rdw.mono (Nat.zero_le _) zx)) ⟨(zA hN rfl), trivial⟩ ?_))))))
 rintro e d ⟨c, b⟩
 have c := zQ c
 obtain ⟨hb, _⟩ := yE hb c
 have b := b.mono (base' := w.heap.size) zx
 refine zD (zA hN rfl) (zB (a _ _ (wp_ret (ret1 rfl hd (zA hN rfl) ⟨_, rfl, ?_⟩))))
 exact ⟨hb, b⟩

theorem Move_hit {base : Nat} {la rv wv : Value} {lab : List UInt16} {stp : Int} {D : List RD} {Wr : List (List UInt8)} {dm : Bool} {lv : Value} {s : Int} {l : List UInt16} {n : Int} {k m p : Nat} {es : List (Int × Nat)} {w : World} (hk : Bx w k 121 [.map (some m)]) (hM : MapC (.int .i64) pv w m es) (hg : mget es n = some p) (hbase : base ≤ w.heap.size) (hx : Bx w p 164 [la, .int .u64 stp, rv, wv, .bool dm]) (hW : Own w base 9 1 wv Wr.length (Wr.map sv)) (hl : RdC w 0 w.heap.size 1 lv l.length (l.map u16v)) (hl8 : l.length ≤ 100) : Ret Try.prog 59 #[(ptr k 0), (.int .i64 n), lv, (.int .u64 s)] w (fun v' w' => w.grownBy w' (some p) ∧ ((0 < Wr.length ∧ v' = .int .i64 16 ∧ w' = w) ∨ (Wr.length = 0 ∧ v' = .int .i64 0 ∧ ∃ nv, Bx w' p 164 [nv, .int .u64 s, rv, wv, .bool dm] ∧ Own w' w.heap.size 46 1 nv l.length (l.map u16v)))) := by
 have hi_p := hx.lt
 have hb := grown_refl w (some p)
 refine enter (N := 38) Try.func59 rfl rfl (by simp) fun a hN hd hA => ?_
 have b : a.tmps.getD 0 undef = (ptr k 0) := hA 0 (by simp)
 have c : a.tmps.getD 1 undef = (.int .i64 n) := hA 1 (by simp)
 have d : a.tmps.getD 2 undef = lv := hA 2 (by simp)
 have e : a.tmps.getD 3 undef = (.int .u64 s) := hA 3 (by simp)
 clear hA
 refine zF fun _ a => zH (zD rfl ?_)
 refine zB (a _ _ (zF fun _ a => zH (zG (zC hN rfl b) (zG (zC hN rfl c) (ze (vs := [(ptr k 0), (.int .i64 n)]) ok95 ⟨(zA hN rfl), ⟨(zA hN rfl), trivial⟩⟩ (Ret.flip (at_hit n hk hM hg)) ?_)))))
 rintro _ _ ⟨rfl, rfl⟩
 refine zG (zA hN rfl) ?_
 refine zW (zA hN rfl) rfl (zW (zA hN rfl) rfl (zD (zA hN rfl) (zD (zA hN rfl) (zB (a _ _ (zF fun _ a => wp_block (zF fun _ b => zH (zG (zA hN rfl) ?_))))))))
 refine op_bin (v := .bool false) (zA hN rfl) rfl (by rw [binOp_neq]; rfl) (zD (zA hN rfl) (zB (b _ _ (wp_cond_false (zA hN rfl) (zF fun _ b => zH (zG (zA hN rfl) (op_nil (zA hN rfl) (zM fld164_3 (zA hN rfl) (zM fld162_0 (zA hN rfl) (zN one26 (zA hN rfl) (hx.cell rfl) (op_len_rd Try.underlying26 (zA hN rfl) hW.rdw (op_gtr (zA hN rfl) rfl (fun c => ?_) (fun c => ?_)))))))))))))
 ·
  refine zD (zA hN rfl) (zB (b _ _ (wp_cond_true (zA hN rfl) (zF fun _ b => zH (zD rfl (zB (b _ _ (wp_ret (zb (zO ( (ret1 rfl hd (zA hN rfl) ⟨_, rfl, ?_⟩))))))))))))
  exact ⟨hb, .inl ⟨by omega, rfl, rfl⟩⟩
 refine zD (zA hN rfl) (zB ?_)
 refine b _ _ (wp_cond_false (zA hN rfl) (wp_skip (a _ _ (zF fun _ a => zH (zG (zA hN rfl) (zG (zA hN rfl) (zG (zC hN rfl d) (zj ok77 (CloneL l _ _ zx (hl.mono (Nat.zero_le _) zx)) ⟨(zA hN rfl), trivial⟩ ?_))))))))
 rintro d f ⟨c, b⟩
 have c := zQ c
 have := c.size
 have hx := hx.keep0 c
 have hl := hl.keep0 c
 have hb := grow_step0 hb c
 have b := b.mono (base' := w.heap.size) zx
 refine zG (zC hN rfl e) ?_
 skip
 refine op_nil (zA hN rfl) (zM fld164_0 (zA hN rfl) ?_)
 have hx_old := hx
 refine za (vs := [d]) (cs' := [d, (.int .u64 stp), rv, wv, (.bool dm)]) size54 (zA hN rfl) (zA hN rfl) b.cl rfl (by simp only [yA, yB, yC, yD, b.one]; try rfl) hx (zI rfl) rfl ?_
 intro e hx c
 have := c.size
 have b := b.keepX hx_old c zz
 have hb := grown_trans hb c
 refine op_nil (zA hN rfl) (zM fld164_1 (zA hN rfl) ?_)
 have hx_old := hx
 refine za (vs := [(.int .u64 s)]) (cs' := [d, (.int .u64 s), rv, wv, (.bool dm)]) size61 (zA hN rfl) (zA hN rfl) rfl rfl rfl hx (zI rfl) rfl ?_
 intro d hx c
 have := c.size
 have b := b.keepX hx_old c zz
 have hb := grown_trans hb c
 refine zB (a _ _ (zF fun _ a => zH (zD rfl (zB (a _ _ (wp_ret (ret1 rfl hd (zA hN rfl) ⟨_, rfl, ?_⟩)))))))
 exact ⟨hb, .inr ⟨by omega, rfl, _, hx, b⟩⟩

theorem Enter_hit {lv : Value} {s : Int} {l : List UInt16} {n : Int} {k m p : Nat} {es : List (Int × Nat)} {w : World} (hk : Bx w k 121 [.map (some m)]) (hM : MapC (.int .i64) pv w m es) (hg : mget es n = some p)  : Ret Try.prog 54 #[(ptr k 0), (.int .i64 n), lv, (.int .u64 s)] w (fun v' w' => Below w.heap.size w w' ∧ v' = .int .i64 18) := by
 have hb := Below.refl w.heap.size w
 refine enter (N := 42) Try.func54 rfl rfl (by simp) fun a hN hd hA => ?_
 have b : a.tmps.getD 0 undef = (ptr k 0) := hA 0 (by simp)
 have c : a.tmps.getD 1 undef = (.int .i64 n) := hA 1 (by simp)
 clear hA
 refine zF fun _ a => zH (zD rfl ?_)
 refine zB (a _ _ (zF fun _ a => zH (zG (zC hN rfl b) (zG (zC hN rfl c) (ze (vs := [(ptr k 0), (.int .i64 n)]) ok95 ⟨(zA hN rfl), ⟨(zA hN rfl), trivial⟩⟩ (Ret.flip (at_hit n hk hM hg)) ?_)))))
 rintro _ _ ⟨rfl, rfl⟩
 refine zG (zA hN rfl) (zW (zA hN rfl) rfl (zW (zA hN rfl) rfl (zD (zA hN rfl) (zD (zA hN rfl) (zB ?_)))))
 refine a _ _ (zF fun _ a => zF fun _ b => zH (zG (zA hN rfl) (zB (b _ _ (wp_block (zF fun _ b => zH (op_bin (v := .bool false) (zA hN rfl) rfl (by rw [binOp_eql]; rfl) (zD (zA hN rfl) (zB ?_)))))))))
 refine b _ _ (wp_cond_false (zA hN rfl) (zF fun _ b => zH (op_bin (v := .bool true) (zA hN rfl) rfl (by rw [binOp_eql]; rfl) (zD (zA hN rfl) (zB (b _ _ (wp_cond_true (zA hN rfl) (zF fun _ b => zH (zD rfl (zB (b _ _ (wp_ret (zb (zO ( (ret1 rfl hd (zA hN rfl) ⟨_, rfl, ?_⟩))))))))))))))))
 exact ⟨hb, rfl⟩

theorem Enter_miss {lv : Value} {s : Int} {l : List UInt16} {n : Int} {k m : Nat} {es : List (Int × Nat)} {w : World} (hk : Bx w k 121 [.map (some m)]) (hM : MapC (.int .i64) pv w m es) (hg : mget es n = none) (hl : RdC w 0 w.heap.size 1 lv l.length (l.map u16v)) (hl8 : l.length ≤ 100) : Ret Try.prog 54 #[(ptr k 0), (.int .i64 n), lv, (.int .u64 s)] w (fun v' w' => w.grownBy w' (some m) ∧ v' = .int .i64 0 ∧ ∃ q nv, w.heap.size ≤ q ∧ Bx w' q 164 [nv, .int .u64 s, .slice none 0 0, .slice none 0 0, .bool false] ∧ Own w' w.heap.size 46 1 nv l.length (l.map u16v) ∧ MapC (.int .i64) pv w' m (mput es n q)) := by
 have hi_m := hM.lt
 have hb := grown_refl w (some m)
 refine enter (N := 42) Try.func54 rfl rfl (by simp) fun a hN hd hA => ?_
 have b : a.tmps.getD 0 undef = (ptr k 0) := hA 0 (by simp)
 have c : a.tmps.getD 1 undef = (.int .i64 n) := hA 1 (by simp)
 have d : a.tmps.getD 2 undef = lv := hA 2 (by simp)
 have e : a.tmps.getD 3 undef = (.int .u64 s) := hA 3 (by simp)
 clear hA
 refine zF fun _ f => zH (zD rfl ?_)
 refine zB (f _ _ (zF fun _ f => zH (zG (zC hN rfl b) (zG (zC hN rfl c) (ze (vs := [(ptr k 0), (.int .i64 n)]) ok95 ⟨(zA hN rfl), ⟨(zA hN rfl), trivial⟩⟩ (Ret.flip (at_miss n hk hM hg)) ?_)))))
 rintro _ _ ⟨rfl, rfl⟩
 refine zG (zA hN rfl) ?_
 refine zW (zA hN rfl) rfl (zW (zA hN rfl) rfl (zD (zA hN rfl) (zD (zA hN rfl) (zB (f _ _ (zF fun _ f => zF fun _ g => zH (zG (zA hN rfl) (zB ?_))))))))
 refine g _ _ (wp_block (zF fun _ g => zH (op_bin (v := .bool false) (zA hN rfl) rfl (by rw [binOp_eql]; rfl) (zD (zA hN rfl) (zB (g _ _ (wp_cond_false (zA hN rfl) (zF fun _ g => zH (op_bin (v := .bool false) (zA hN rfl) rfl (by rw [binOp_eql]; rfl) (zD (zA hN rfl) (zB (g _ _ (wp_cond_false (zA hN rfl) (wp_skip (f _ _ (zF fun _ f => ?_))))))))))))))))
 refine zF fun _ g => zH (zG (zC hN rfl b) (op_nil (zA hN rfl) (zM fld121_0 (zA hN rfl) (zN one119 (zA hN rfl) (hk.cell rfl) (op_meq (r := some m) Try.underlying119 (zA hN rfl) rfl (zB (g _ _ (wp_cond_false (zA hN rfl) (wp_skip (f _ _ (zF fun _ f => reg_split (hd := [_, _, _, _, _, _, _, _, _, _]) (tl := _) 10 mixed zy rfl rfl (any_env (φ := phiV [(fun uz => uz = (ptr k 0)), (fun uz => uz = (ptr k 0)), (fun uz => uz = (ptr k 0)), (fun uz => uz = (Value.map (some m))), (fun uz => uz = (.int .i64 n)), (fun uz => uz = lv), (fun _ => True), (fun uz => uz = (.int .u64 s)), (fun _ => True), (fun _ => True)]) (G := fun w' => Bx w' k 121 [(Value.map (some m))]) [6, 8, 9] zy zy zy zy hN (fun j o E h => h.keep0 E) hk (ObEs.cons ?_ (ObEs.cons ?_ (ObEs.cons ?_ (ObEs.cons ?_ (ObEs.cons ?_ (ObEs.cons ?_ (ObEs.pass rfl (ObEs.cons ?_ (ObEs.pass rfl (ObEs.pass rfl (ObEs.nil))))))))))) (by simp only [putsL_defers]) ?_))))))))))))
 ·
  intro eA aA wA hNA hGA hbsA hdpA
  have p := (hbsA 0 rfl).trans (zL hN rfl b)
  refine zG (zC hNA rfl p) ?_
  exact obE_end rfl rfl rfl
 ·
  intro eA aA wA hNA hGA hbsA hdpA
  have p : Sl aA 32 (ptr k 0) := (hdpA 0 _ 32 zy rfl rfl).2 rfl
  refine op_nil (zC hNA rfl p) ?_
  exact obE_end rfl rfl rfl
 ·
  intro eA aA wA hNA hGA hbsA hdpA
  have p : Sl aA 33 (ptr k 0) := (hdpA 1 _ 33 zy rfl rfl).2 rfl
  refine zM fld121_0 (zC hNA rfl p) ?_
  exact obE_end rfl rfl rfl
 ·
  intro eA aA wA hNA hGA hbsA hdpA
  have p : Sl aA 34 (ptr k 0) := (hdpA 2 _ 34 zy rfl rfl).2 rfl
  refine zN one119 (zC hNA rfl p) (hGA.cell rfl) ?_
  exact obE_end rfl rfl rfl
 ·
  intro eA aA wA hNA hGA hbsA hdpA
  have p := (hbsA 1 rfl).trans (zL hN rfl c)
  refine zG (zC hNA rfl p) ?_
  exact obE_end rfl rfl rfl
 ·
  intro eA aA wA hNA hGA hbsA hdpA
  have p := (hbsA 2 rfl).trans (zL hN rfl d)
  refine zG (zC hNA rfl p) ?_
  exact obE_end rfl rfl rfl
 ·
  intro eA aA wA hNA hGA hbsA hdpA
  have p := (hbsA 3 rfl).trans (zL hN rfl e)
  refine zG (zC hNA rfl p) ?_
  exact obE_end rfl rfl rfl
 intro z p _ x t y u o_ ho_; obtain rfl := zE ho_
 have := p.size
 have hl := hl.keep0 p
 have hb := grow_step0 hb p
 have A : Sl x 37 lv := (u 5 _ 37 zy rfl rfl).2 rfl
 refine zj ok77 (CloneL l _ _ zx (hl.mono (Nat.zero_le _) zx)) ⟨(zC t rfl A), trivial⟩ ?_
 rintro D F ⟨C, B⟩
 have C := zQ C
 have := C.size
 have hk := (hk.keep0 p).keep0 C
 have hb := grow_step0 hb C
 have B := B.mono (base' := w.heap.size) zx
 refine ke_end rfl zz rfl hk ?_
 intro M H _ I J L K o_ ho_; obtain rfl := zE ho_
 have := H.size
 have hk := hk.keep0 H
 have B := B.keep0 H
 have hb := grow_step0 hb H
 have O : Sl I 38 D := (zE ((K 6 _ 38 zy rfl rfl).1 0 rfl)).symm
 have P : Sl I 39 (.int .u64 s) := (K 7 _ 39 zy rfl rfl).2 rfl
 refine zf (pv := [(0, D), (1, (.int .u64 s))]) (v := (Value.agg #[D, (.int .u64 s), (.slice none 0 0), (.slice none 0 0), (.bool false)])) ⟨rfl, (zC J rfl O), ⟨rfl, (zC J rfl P), trivial⟩⟩ (by obtain ⟨_, _, _, rfl⟩ := B.sl; kernel_rfl) (ke_end rfl zz rfl hk ?_)
 intro U Q _ T R V S o_ ho_; obtain rfl := zE ho_
 have := Q.size
 have hb := grow_step0 hb Q
 have a : Sl T 40 (.agg #[D, (.int .u64 s), (.slice none 0 0), (.slice none 0 0), (.bool false)]) := (zE ((S 8 _ 40 zy rfl rfl).1 1 rfl)).symm
 refine op_box (cs := [D, (.int .u64 s), (.slice none 0 0), (.slice none 0 0), (.bool false)]) (zC R rfl a) rfl ?_
 intro d c g e b a
 have := a.size
 have hk := (hk.keep0 Q).keep0 a
 have hb := grow_step0 hb a
 refine ke_end rfl zz rfl hk ?_
 intro u d o e g t j
 have g := g.trans ((by simp only [putsL_defers] : _ = _).trans hd)
 have := d.size
 have hM := (((((hM.keep0 p).keep0 C).keep0 H).keep0 Q).keep0 a).keep0 d
 have hb := grow_step0 hb d
 have p : Sl o 35 (Value.map (some m)) := (j 3 _ 35 rfl rfl).2 rfl
 have t : Sl o 36 (.int .i64 n) := (j 4 _ 36 rfl rfl).2 rfl
 have u : Sl o 41 (ptr c 0) := (zE ((j 9 _ 41 rfl rfl).1 2 rfl)).symm
 refine split_end (from_seq (tl := [_]) zz zy rfl ?_)
 have hM_old := hM
 refine op_mapput (k := n) (v := c) Try.underlying119 (Go.Gx.key_int Try.underlying3) (zC e rfl p) (zC e rfl t) (zC e rfl u) hM ?_
 intro p o j
 have := j.size
 have hl := (((((hl.keep0 C).keep0 H).keep0 Q).keep0 a).keep0 d).keepM hM_old j
 have B := (((B.keep0 Q).keep0 a).keep0 d).keepM hM_old j
 have b := (b.keep0 d).keepM hM_old j
 have hb := grown_trans hb j
 refine zB (f _ _ (zF fun _ f => zH (zD rfl (zB (f _ _ (wp_ret (ret1 rfl g (zA e rfl) ⟨_, rfl, ?_⟩)))))))
 exact ⟨hb, rfl, c, _, by omega, b, B, o⟩

theorem Enter_nomap {lv : Value} {s : Int} {l : List UInt16} {n : Int} {k : Nat} {w : World} (hk : Bx w k 121 [.map none]) {lo : Nat} (hl : RdC w 0 lo 1 lv l.length (l.map u16v)) (hlo : lo ≤ k) (hl8 : l.length ≤ 100) : Ret Try.prog 54 #[(ptr k 0), (.int .i64 n), lv, (.int .u64 s)] w (fun v' w' => w.grownBy w' (some k) ∧ v' = .int .i64 0 ∧ ∃ m q nv, w.heap.size ≤ m ∧ w.heap.size ≤ q ∧ Bx w' k 121 [.map (some m)] ∧ Bx w' q 164 [nv, .int .u64 s, .slice none 0 0, .slice none 0 0, .bool false] ∧ Own w' w.heap.size 46 1 nv l.length (l.map u16v) ∧ MapC (.int .i64) pv w' m [(n, q)]) := by
 have hi_k := hk.lt
 have hb := grown_refl w (some k)
 refine enter (N := 42) Try.func54 rfl rfl (by simp) fun a hN hd hA => ?_
 have b : a.tmps.getD 0 undef = (ptr k 0) := hA 0 (by simp)
 have c : a.tmps.getD 1 undef = (.int .i64 n) := hA 1 (by simp)
 have d : a.tmps.getD 2 undef = lv := hA 2 (by simp)
 have e : a.tmps.getD 3 undef = (.int .u64 s) := hA 3 (by simp)
 clear hA
 refine zF fun _ f => zH (zD rfl ?_)
 refine zB (f _ _ (zF fun _ f => zH (zG (zC hN rfl b) (zG (zC hN rfl c) (ze (vs := [(ptr k 0), (.int .i64 n)]) ok95 ⟨(zA hN rfl), ⟨(zA hN rfl), trivial⟩⟩ (Ret.flip (at_nomap n hk)) ?_)))))
 rintro _ _ ⟨rfl, rfl⟩
 refine zG (zA hN rfl) ?_
 refine zW (zA hN rfl) rfl (zW (zA hN rfl) rfl (zD (zA hN rfl) (zD (zA hN rfl) (zB (f _ _ (zF fun _ f => zF fun _ g => zH (zG (zA hN rfl) (zB ?_))))))))
 refine g _ _ (wp_block (zF fun _ g => zH (op_bin (v := .bool false) (zA hN rfl) rfl (by rw [binOp_eql]; rfl) (zD (zA hN rfl) (zB (g _ _ (wp_cond_false (zA hN rfl) (zF fun _ g => zH (op_bin (v := .bool false) (zA hN rfl) rfl (by rw [binOp_eql]; rfl) (zD (zA hN rfl) (zB (g _ _ (wp_cond_false (zA hN rfl) (wp_skip (f _ _ (zF fun _ f => ?_))))))))))))))))
 refine zF fun _ g => zH (zG (zC hN rfl b) (op_nil (zA hN rfl) (zM fld121_0 (zA hN rfl) (zN one119 (zA hN rfl) (hk.cell rfl) (op_meq (r := none) Try.underlying119 (zA hN rfl) rfl (zB (g _ _ (wp_cond_true (zA hN rfl) (zH (zG (zC hN rfl b) (op_mkmap (kv := (Value.int .i64)) (vv := pv) ?_)))))))))))
 intro t o x u j p
 have := p.size
 have hk := hk.keep0 p
 have hb := grow_step0 hb p
 refine op_nil (zA hN rfl) (zM fld121_0 (zA hN rfl) ?_)
 have hk_old := hk
 refine za (vs := [(Value.map (some o))]) (cs' := [(Value.map (some o))]) size119 (zA hN rfl) (zA hN rfl) rfl rfl rfl hk (zI rfl) rfl ?_
 intro z hk y
 have := y.size
 have hl := (hl.keep0 p).keep y sR
 have j := j.keepB hk_old y
 have hb := grown_trans hb y
 refine zB (f _ _ (zF fun _ f => reg_split (hd := [_, _, _, _, _, _, _, _, _, _]) (tl := _) 10 mixed zy rfl rfl (any_env (φ := phiV [(fun uz => uz = (ptr k 0)), (fun uz => uz = (ptr k 0)), (fun uz => uz = (ptr k 0)), (fun uz => uz = (Value.map (some o))), (fun uz => uz = (.int .i64 n)), (fun uz => uz = lv), (fun _ => True), (fun uz => uz = (.int .u64 s)), (fun _ => True), (fun _ => True)]) (G := fun w' => Bx w' k 121 [(Value.map (some o))]) [6, 8, 9] zy zy zy zy hN (fun A B E h => h.keep0 E) hk (ObEs.cons ?_ (ObEs.cons ?_ (ObEs.cons ?_ (ObEs.cons ?_ (ObEs.cons ?_ (ObEs.cons ?_ (ObEs.pass rfl (ObEs.cons ?_ (ObEs.pass rfl (ObEs.pass rfl (ObEs.nil))))))))))) (by simp only [putsL_defers]) ?_)))
 ·
  intro eA aA wA hNA hGA hbsA hdpA
  have C := (hbsA 0 rfl).trans (zL hN rfl b)
  refine zG (zC hNA rfl C) ?_
  exact obE_end rfl rfl rfl
 ·
  intro eA aA wA hNA hGA hbsA hdpA
  have C : Sl aA 32 (ptr k 0) := (hdpA 0 _ 32 zy rfl rfl).2 rfl
  refine op_nil (zC hNA rfl C) ?_
  exact obE_end rfl rfl rfl
 ·
  intro eA aA wA hNA hGA hbsA hdpA
  have C : Sl aA 33 (ptr k 0) := (hdpA 1 _ 33 zy rfl rfl).2 rfl
  refine zM fld121_0 (zC hNA rfl C) ?_
  exact obE_end rfl rfl rfl
 ·
  intro eA aA wA hNA hGA hbsA hdpA
  have C : Sl aA 34 (ptr k 0) := (hdpA 2 _ 34 zy rfl rfl).2 rfl
  refine zN one119 (zC hNA rfl C) (hGA.cell rfl) ?_
  exact obE_end rfl rfl rfl
 ·
  intro eA aA wA hNA hGA hbsA hdpA
  have C := (hbsA 1 rfl).trans (zL hN rfl c)
  refine zG (zC hNA rfl C) ?_
  exact obE_end rfl rfl rfl
 ·
  intro eA aA wA hNA hGA hbsA hdpA
  have C := (hbsA 2 rfl).trans (zL hN rfl d)
  refine zG (zC hNA rfl C) ?_
  exact obE_end rfl rfl rfl
 ·
  intro eA aA wA hNA hGA hbsA hdpA
  have C := (hbsA 3 rfl).trans (zL hN rfl e)
  refine zG (zC hNA rfl C) ?_
  exact obE_end rfl rfl rfl
 intro J C _ F H I D o_ ho_; obtain rfl := zE ho_
 have := C.size
 have hl := hl.keep0 C
 have hb := grow_step0 hb C
 have K : Sl F 37 lv := (D 5 _ 37 zy rfl rfl).2 rfl
 refine zj ok77 (CloneL l _ _ zx (hl.mono (Nat.zero_le _) zx)) ⟨(zC H rfl K), trivial⟩ ?_
 rintro O P ⟨M, L⟩
 have M := zQ M
 have := M.size
 have hk := (hk.keep0 C).keep0 M
 have hb := grow_step0 hb M
 have L := L.mono (base' := w.heap.size) zx
 refine ke_end rfl zz rfl hk ?_
 intro V Q _ T R U S o_ ho_; obtain rfl := zE ho_
 have := Q.size
 have hk := hk.keep0 Q
 have L := L.keep0 Q
 have hb := grow_step0 hb Q
 have W : Sl T 38 O := (zE ((S 6 _ 38 zy rfl rfl).1 0 rfl)).symm
 have X : Sl T 39 (.int .u64 s) := (S 7 _ 39 zy rfl rfl).2 rfl
 refine zf (pv := [(0, O), (1, (.int .u64 s))]) (v := (Value.agg #[O, (.int .u64 s), (.slice none 0 0), (.slice none 0 0), (.bool false)])) ⟨rfl, (zC R rfl W), ⟨rfl, (zC R rfl X), trivial⟩⟩ (by obtain ⟨_, _, _, rfl⟩ := L.sl; kernel_rfl) (ke_end rfl zz rfl hk ?_)
 intro ad Y _ Z ab ac aa o_ ho_; obtain rfl := zE ho_
 have := Y.size
 have hb := grow_step0 hb Y
 have a : Sl Z 40 (.agg #[O, (.int .u64 s), (.slice none 0 0), (.slice none 0 0), (.bool false)]) := (zE ((aa 8 _ 40 zy rfl rfl).1 1 rfl)).symm
 refine op_box (cs := [O, (.int .u64 s), (.slice none 0 0), (.slice none 0 0), (.bool false)]) (zC ab rfl a) rfl ?_
 intro d c e g b a
 have := a.size
 have hk := (hk.keep0 Y).keep0 a
 have hb := grow_step0 hb a
 refine ke_end rfl zz rfl hk ?_
 intro u d t e g x p
 have g := g.trans ((by simp only [putsL_defers] : _ = _).trans hd)
 have := d.size
 have j := (((((j.keep0 C).keep0 M).keep0 Q).keep0 Y).keep0 a).keep0 d
 have hb := grow_step0 hb d
 have u : Sl t 35 (Value.map (some o)) := (p 3 _ 35 rfl rfl).2 rfl
 have x : Sl t 36 (.int .i64 n) := (p 4 _ 36 rfl rfl).2 rfl
 have y : Sl t 41 (ptr c 0) := (zE ((p 9 _ 41 rfl rfl).1 2 rfl)).symm
 refine split_end (from_seq (tl := [_]) zz zy rfl ?_)
 have p := j
 refine op_mapput (k := n) (v := c) Try.underlying119 (Go.Gx.key_int Try.underlying3) (zC e rfl u) (zC e rfl x) (zC e rfl y) j ?_
 intro u t j
 have := j.size
 have hl := (((((hl.keep0 M).keep0 Q).keep0 Y).keep0 a).keep0 d).keepM p j
 have hk := (hk.keep0 d).keepM p j
 have L := (((L.keep0 Y).keep0 a).keep0 d).keepM p j
 have b := (b.keep0 d).keepM p j
 have hb := grow_step1 hb j zx
 refine zB (f _ _ (zF fun _ f => zH (zD rfl (zB (f _ _ (wp_ret (ret1 rfl g (zA e rfl) ⟨_, rfl, ?_⟩)))))))
 exact ⟨hb, rfl, o, c, _, by omega, by omega, hk, b, L, t⟩

theorem lockNew_ret (w : World) : Ret Try.prog 53 #[] w (fun v' w' => Below w.heap.size w w' ∧ ∃ k, w.heap.size ≤ k ∧ v' = ptr k 0 ∧ Bx w' k 121 [.map none]) := by
 have hb := Below.refl w.heap.size w
 refine enter (N := 3) Try.func53 rfl rfl (by simp) fun a hN hd hA => ?_
 clear hA
 refine zF fun _ a => zH (zD rfl (zB (a _ _ (zF fun _ a => zH (zf (pv := []) (v := (Value.agg #[(Value.map none)])) trivial zy (op_box (cs := [(Value.map none)]) (zA hN rfl) rfl ?_))))))
 intro e d g f b c
 obtain ⟨hb, _⟩ := yE hb c
 refine zD (zA hN rfl) (zB (a _ _ (wp_ret (ret1 rfl hd (zA hN rfl) ⟨_, rfl, ?_⟩))))
 exact ⟨hb, d, by omega, rfl, b⟩

theorem keys_ret {m : Nat} (w : World) : Ret Try.prog 120 #[(Value.map (some m))] w (fun v' w' => Below w.heap.size w w' ∧ ∃ b, w.heap.size ≤ b ∧ v' = .func (.func 138) #[] #[ptr b 0] ∧ Bx w' b 119 [.map (some m)]) := by
 have hb := Below.refl w.heap.size w
 refine enter (N := 4) Try.func120 rfl rfl (by simp) fun a hN hd hA => ?_
 have c : a.tmps.getD 0 undef = (Value.map (some m)) := hA 0 (by simp)
 clear hA
 refine zF fun _ a => zH (op_box (cs := [(Value.map (some m))]) (zC hN rfl c) rfl ?_)
 intro f c h g d e
 obtain ⟨hb, _⟩ := yE hb e
 refine zD rfl (zB (a _ _ (zF fun _ a => zH (op_mkfn (cv := [(ptr c 0)]) ⟨(zA hN rfl), trivial⟩ (zD (zA hN rfl) (zB (a _ _ (wp_ret (ret1 rfl hd (zA hN rfl) ⟨_, rfl, ?_⟩)))))))))
 exact ⟨hb, c, by omega, rfl, d⟩

theorem others_ret {base k m : Nat} {M : TM} {C : List TC} {F0 : Nat → Prop} {q : List UInt16 → Bool} (n : Int) {w : World} (hbase : base ≤ w.heap.size) (hk : Bx w k 121 [.map (some m)]) (hM : MapC (Value.int .i64) pv w m (esOf M C)) (hA : LkAll w base M C F0) (hMo : MOk M) {g : Nat} {fs cs : List Value} (hokg : callOk Try.prog g = true) (hf : ∀ j, j < M.length → ∀ w1, Below w.heap.size w w1 → Ret Try.prog g (fs ++ [(C.getD j default).la] ++ cs).toArray w1 (fun v' w' => Below w1.heap.size w1 w' ∧ v' = .bool (q (M.getD j default).2.label))) : Ret Try.prog 96 #[(ptr k 0), (Value.int .i64 n), (Value.func (.func g) fs.toArray cs.toArray)] w (fun v' w' => Below w.heap.size w w' ∧ Own w' w.heap.size 3 1 v' (othersL M n q).length ((othersL M n q).map (Value.int .i64))) := by
 have hi_k := hk.lt
 have hi_m := hM.lt
 have hsl := sortK_len (M := M)
 have a := hMo.1
 have djk := hA.notBx hk zz zz zz zz
 have djm := hA.notMap hM
 have hb := Below.refl w.heap.size w
 refine enter (N := 43) Try.func96 rfl rfl (by simp) fun a hN hd hA => ?_
 have c : a.tmps.getD 0 undef = (ptr k 0) := hA 0 (by simp)
 have f : a.tmps.getD 1 undef = (.int .i64 n) := hA 1 (by simp)
 have l : a.tmps.getD 2 undef = (.func (.func g) fs.toArray cs.toArray) := hA 2 (by simp)
 clear hA
 refine zF fun _ a => zH (zD rfl (zB (a _ _ (zF fun _ a => zH (zD rfl (zB (a _ _ (zF fun _ a => ?_))))))))
 refine zF fun _ o => zH (zG (zC hN rfl c) (op_nil (zA hN rfl) (zM fld121_0 (zA hN rfl) (zN one119 (zA hN rfl) (hk.cell rfl) (zj ok120 (keys_ret _) ⟨(zA hN rfl), trivial⟩ ?_)))))
 rintro _ x ⟨s, t, u, rfl, p⟩
 have s := zQ s
 obtain ⟨hb, _⟩ := yE hb s
 have hM := hM.keep0 s
 have hA := hA.kz s
 refine zj ok119 (sortedKeys_ret hM (es_wf hA.1 hMo) (by rw [esOf_len hA.1]; have := hMo.1; omega) p) ⟨(zA hN rfl), trivial⟩ ?_
 rintro y z ⟨x, u⟩
 have x := zQ x
 obtain ⟨hb, _⟩ := yE hb x
 have hk := (hk.keep0 s).keep0 x
 have hM := hM.keep0 x
 have hA := hA.kz x
 have p := p.keep0 x
 rw [keysUp_eq hA.1] at u
 have u := u.mono (base' := w.heap.size) zx
 refine op_len_rd Try.underlying35 (zA hN rfl) u.rdw (zG rfl (zB (o _ _ (wp_block (loop_m (fun mz_ az_ w' => ∃ (i : Nat) (r : Value), mz_ = (sortK M).length - i ∧ (Sl az_ 0 (ptr k 0)) ∧ (Sl az_ 1 (.int .i64 n)) ∧ (Sl az_ 2 (.func (.func g) fs.toArray cs.toArray)) ∧ (Sl az_ 6 (.slice none 0 0)) ∧ (Sl az_ 15 y) ∧ (Sl az_ 16 (.int .i64 (((sortK M).length : Nat) : Int))) ∧ (Sl az_ 17 (.int .i64 ((i : Nat) : Int))) ∧ (Sl az_ 7 r) ∧ (i ≤ (sortK M).length) ∧ ((((sortK M).take i).filter (fun i => decide (i ≠ n) && q (txAt M i).label)).length ≤ i) ∧ (DJ y r) ∧ (Below w.heap.size w w') ∧ (z.heap.size ≤ w'.heap.size) ∧ (Bx w' k 121 [(Value.map (some m))]) ∧ (MapC (.int .i64) pv w' m (esOf M C)) ∧ (LkAll w' base M C F0) ∧ (Bx w' t 119 [(Value.map (some m))]) ∧ (Own w' w.heap.size 3 1 y (sortK M).length ((sortK M).map (Value.int .i64))) ∧ (Own w' w.heap.size 3 1 r (((sortK M).take i).filter (fun i => decide (i ≠ n) && q (txAt M i).label)).length ((((sortK M).take i).filter (fun i => decide (i ≠ n) && q (txAt M i).label)).map (Value.int .i64)))) _ hN hd ⟨0, (.slice none 0 0), rfl, (zL hN rfl c), (zL hN rfl f), (zL hN rfl l), (zU hN rfl), (zU hN rfl), (zU hN rfl), (zU hN rfl), (zU hN rfl), (Nat.zero_le _), (by simp), (Dj.nil _), hb, (Nat.le_refl _), hk, hM, hA, p, u, (Own.nil _ _ _ _)⟩ ?_)))))
 rintro _ G F c D ⟨i, r, rfl, s, B, t, E, x, A, l, z, hi, hfl, djr, hb, H, hk, hM, hA, p, u, f⟩
 have := hb.size
 refine zF fun _ o => zH (op_lss (zC c rfl l) (zC c rfl A) (fun F => ?_) (fun F => ?_))
 ·
  refine zB (o _ _ (zF fun _ o => wp_cond_true (zA c rfl) (wp_skip (o _ _ (zF fun _ o => wp_block (zF fun _ F => zH (zh slt35 (zC c rfl x) u.rdw (zC c rfl l) zx zx ?_)))))))
  intro H I K J G
  refine zN (v := (Value.int .i64 ((sortK M).getD i 0))) one3 (zA c rfl) (by have := G 0 (.int .i64 ((sortK M).getD i 0)) zz (el_i64 (i := i) zx zx); simpa using this) (zD (zA c rfl) (zB (F _ _ (zF fun _ F => zH (zG (zA c rfl) (zG (zC c rfl B) (op_neq (zA c rfl) (zA c rfl) (fun H => ?_) (fun H => ?_))))))))
  ·
   refine zG (zA c rfl) ?_
   have G : (sortK M).getD i 0 ∈ M.map Prod.fst := sortK_mem.1 (getD_mem zx)
   obtain ⟨J, I⟩ := mget_key G
   obtain ⟨S, P, Q, T, Y, U, K, Z, R, L, O, aa, G, ac, ab, X, V, W⟩ := LkAll.key hA I
   have ad : txAt M ((sortK M).getD i 0) = J := by unfold txAt; rw [I]; rfl
   refine zS (j := 3) (dj := 24) (b := true) rfl rfl rfl (zA c rfl) (zG (zC c rfl t) (zS (j := 3) (dj := 24) (b := true) rfl rfl rfl (zA c rfl) (zG (zC c rfl s) (zS (j := 3) (dj := 24) (b := true) rfl rfl rfl (zA c rfl) (op_nil (zA c rfl) (zS (j := 3) (dj := 24) (b := true) rfl rfl rfl (zA c rfl) (zM fld121_0 (zA c rfl) (zS (j := 3) (dj := 24) (b := true) rfl rfl rfl (zA c rfl) (zN one119 (zA c rfl) (hk.cell rfl) (zS (j := 3) (dj := 24) (b := true) rfl rfl rfl (zA c rfl) ?_))))))))))
   refine zG (zA c rfl) (zS (j := 3) (dj := 24) (b := true) rfl rfl rfl (zA c rfl) (op_look_hit (k := ((sortK M).getD i 0)) (v := P) Try.underlying119 (Go.Gx.key_int Try.underlying3) zero155 (zA c rfl) (zA c rfl) hM O (zS (j := 3) (dj := 24) (b := true) rfl rfl rfl (zA c rfl) (op_nil (zA c rfl) (zS (j := 3) (dj := 24) (b := true) rfl rfl rfl (zA c rfl) (zM fld164_0 (zA c rfl) (zS (j := 3) (dj := 24) (b := true) rfl rfl rfl (zA c rfl) (zN one54 (zA c rfl) (G.cell rfl) (zS (j := 3) (dj := 24) (b := true) rfl rfl rfl (zA c rfl) (op_fnv (fs := fs) (vs := [Q]) (cs := cs) (zA c rfl) hokg ⟨(zA c rfl), trivial⟩ ((by have h9 := hf S K _ hb; rw [L, R] at h9; exact h9)) ?_))))))))))
   rintro _ af ⟨ae, rfl⟩
   have ae := zQ ae
   obtain ⟨hb, _⟩ := yE hb ae
   have hk := hk.keep0 ae
   have hM := hM.keep0 ae
   have hA := hA.kz ae
   have p := p.keep0 ae
   have u := u.keep0 ae
   have f := f.keep0 ae
   rcases Bool.eq_false_or_eq_true ((q J.label)) with ae | ae
   ·
    rw [ae]
    refine zc (zA c rfl) (zA c rfl) (zB (F _ _ (wp_cond_true (zA c rfl) (zH (zG (zC c rfl z) (zG (zA c rfl) (op_bslice (e := 3) (pv := [(0, (.int .i64 ((sortK M).getD i 0)))]) (cs := [(.int .i64 ((sortK M).getD i 0))]) ⟨rfl, (zA c rfl), trivial⟩ zy ?_)))))))
    intro aj ah ak ai ag af
    obtain ⟨hb, _⟩ := yE hb af
    have hk := hk.keep0 af
    have hA := hA.kz af
    have u := u.keep0 af
    have f := f.keep0 af
    have ah := f
    refine op_append slt35 (zA c rfl) ah (zA c rfl) (Src.ofRd Try.underlying35 zz (RdC.ofBx (sz := 1) (n := 1) ag rfl zz) (by simp [Value.oneCell', u8v])) (by unfold maxLen; omega) zx hb.size ?_
    intro ai ak aj ag al
    have am : DJ y ai := DJ.step al (fun k hk => (u.lt k hk).2) djr
    have := ag.size
    have hk := hk.keepO ah ag zz
    have hM := (hM.keep0 af).keepO ah ag
    have hA := hA.keepG (Gr.of ag) (hA.notOwn ah zz zz zz zz).symm
    have p := (p.keep0 af).keepO ah ag zz
    have u := u.keepD ag djr
    have hb := below_stepO hb ah ag hb.size zx
    have aj : Own ak w.heap.size 3 1 ai ((((sortK M).take i).filter (fun i => decide (i ≠ n) && q (txAt M i).label)).length + 1) ((((((sortK M).take i).filter (fun i => decide (i ≠ n) && q (txAt M i).label)) ++ [((sortK M).getD i 0)])).map (Value.int .i64)) := by simpa [u8v, u16v, sv] using aj
    refine zD (zA c rfl) (zB (o _ _ (zH (op_add (zC c rfl l) rfl (add64 zx) (zG (zA c rfl) (zB ?_))))))
    -- round 18T 23T 35T
    exact zg _ c D ⟨(i + 1), ai, rfl, (zL c rfl s), (zL c rfl B), (zL c rfl t), (zL c rfl E), (zL c rfl x), (zL c rfl A), (zU c rfl).trans (congrArg (Value.int .i64) zx), (zU c rfl), zx, (filt_le zx), am, hb, zx, hk, hM, hA, p, u, (aj.cast (by rw [filtT (d := 0) zx (by rw [decide_eq_true H, ad, ae]; rfl)]; simp) (by rw [filtT (d := 0) zx (by rw [decide_eq_true H, ad, ae]; rfl)]))⟩ zx
   rw [ae]
   refine zc (zA c rfl) (zA c rfl) (zB (F _ _ (wp_cond_false (zA c rfl) (wp_skip (o _ _ (zH (op_add (zC c rfl l) rfl (add64 zx) (zG (zA c rfl) (zB ?_)))))))))
   -- round 18T 23T 35F
   exact zg _ c D ⟨(i + 1), r, rfl, (zL c rfl s), (zL c rfl B), (zL c rfl t), (zL c rfl E), (zL c rfl x), (zL c rfl A), (zU c rfl).trans (congrArg (Value.int .i64) zx), (zL c rfl z), zx, (filt_le zx), djr, hb, zx, hk, hM, hA, p, u, (f.cast (by rw [filtF (d := 0) zx (by rw [ad, ae, Bool.and_false])]) (by rw [filtF (d := 0) zx (by rw [ad, ae, Bool.and_false])]))⟩ zx
  refine zG (zA c rfl) ?_
  have G : (sortK M).getD i 0 ∈ M.map Prod.fst := sortK_mem.1 (getD_mem zx)
  obtain ⟨J, I⟩ := mget_key G
  obtain ⟨S, P, Q, T, Y, U, K, Z, R, L, O, aa, G, ac, ab, X, V, W⟩ := LkAll.key hA I
  have ad : txAt M ((sortK M).getD i 0) = J := by unfold txAt; rw [I]; rfl
  refine zR (j := 3) (dj := 24) (b := true) rfl rfl rfl (zA c rfl) rfl rfl (zR (j := 3) (dj := 24) (b := true) rfl rfl rfl (zA c rfl) rfl rfl (zR (j := 3) (dj := 24) (b := true) rfl rfl rfl (zA c rfl) rfl rfl (zR (j := 3) (dj := 24) (b := true) rfl rfl rfl (zA c rfl) rfl rfl (zR (j := 3) (dj := 24) (b := true) rfl rfl rfl (zA c rfl) rfl rfl (zR (j := 3) (dj := 24) (b := true) rfl rfl rfl (zA c rfl) rfl rfl (zR (j := 3) (dj := 24) (b := true) rfl rfl rfl (zA c rfl) rfl rfl ?_))))))
  refine zR (j := 3) (dj := 24) (b := true) rfl rfl rfl (zA c rfl) rfl rfl (zR (j := 3) (dj := 24) (b := true) rfl rfl rfl (zA c rfl) rfl rfl (zR (j := 3) (dj := 24) (b := true) rfl rfl rfl (zA c rfl) rfl rfl (zR (j := 3) (dj := 24) (b := true) rfl rfl rfl (zA c rfl) rfl rfl (zd (zA c rfl) rfl (zB (F _ _ (wp_cond_false (zA c rfl) (wp_skip (o _ _ (zH (op_add (zC c rfl l) rfl (add64 zx) (zG (zA c rfl) (zB ?_)))))))))))))
  -- round 18T 23F
  exact zg _ c D ⟨(i + 1), r, rfl, (zL c rfl s), (zL c rfl B), (zL c rfl t), (zL c rfl E), (zL c rfl x), (zL c rfl A), (zU c rfl).trans (congrArg (Value.int .i64) zx), (zL c rfl z), zx, (filt_le zx), djr, hb, zx, hk, hM, hA, p, u, (f.cast (by rw [filtF (d := 0) zx (by rw [decide_eq_false (fun h => h H)]; rfl)]) (by rw [filtF (d := 0) zx (by rw [decide_eq_false (fun h => h H)]; rfl)]))⟩ zx
 refine zB (o _ _ (zF fun _ o => wp_cond_false (zA c rfl) (wp_exit (then_exit (then_exit (blk_hit (a _ _ (zF fun _ a => zH (zG (zC c rfl z) (zD (zA c rfl) (zB (a _ _ (wp_ret (ret1 rfl D (zA c rfl) ⟨_, rfl, ?_⟩))))))))))))))
 rw [List.take_of_length_le zx] at f
 exact ⟨hb, f⟩

theorem ask1 {base : Nat} {la rv wv : Value} {lab : List UInt16} {stp : Int} {dm : Bool} {p tb : Nat} {l : List UInt16} {lv : Value} {w : World} (hb9 : Bx w tb 155 [ptr p 0]) (hx : Bx w p 164 [la, .int .u64 stp, rv, wv, .bool dm]) (hLa : Own w base 46 1 la lab.length (lab.map u16v)) (hl : RdC w 0 w.heap.size 1 lv l.length (l.map u16v)) (h8 : lab.length ≤ 8) (hl8 : l.length ≤ 8) : Ret Try.prog 97 #[lv, (ptr tb 0)] w (fun v' w' => Below w.heap.size w w' ∧ v' = .bool (decide (l = lab))) := by
 have hb := Below.refl w.heap.size w
 refine enter (N := 11) Try.func97 rfl rfl (by simp) fun a hN hd hA => ?_
 have b : a.tmps.getD 0 undef = lv := hA 0 (by simp)
 have c : a.tmps.getD 1 undef = (ptr tb 0) := hA 1 (by simp)
 clear hA
 refine zF fun _ a => zH (zD rfl (zB (a _ _ (zF fun _ a => ?_))))
 refine zH (zG (zC hN rfl b) (zN one155 (zC hN rfl c) (hb9.cell rfl) (op_nil (zA hN rfl) (zM fld164_0 (zA hN rfl) (zN one54 (zA hN rfl) (hx.cell rfl) (zj ok98 (lcmpW_ret l lab _ _ _ (by first | assumption | omega | (simp only [List.length_append, List.length_cons, List.length_nil, List.length_drop, List.length_take]; omega) | (dsimp only; omega) | decide | (simp [keyV, be8_len]; done)) (by first | assumption | omega | (simp only [List.length_append, List.length_cons, List.length_nil, List.length_drop, List.length_take]; omega) | (dsimp only; omega) | decide | (simp [keyV, be8_len]; done)) (show RdC w 0 w.heap.size 1 lv l.length (l.map u16v) from by have hh : RdC w 0 w.heap.size 1 _ _ _ := (hl.mono (L' := 0) (B' := w.heap.size) (Nat.zero_le _) zx); first | exact hh | exact hh.cast (by first | omega | (simp; try omega)) (by first | rfl | simp [u16v])) (show RdC w 0 w.heap.size 1 la lab.length (lab.map u16v) from by have hh : RdC w 0 w.heap.size 1 _ _ _ := (hLa.rdw.mono (L' := 0) (B' := w.heap.size) (Nat.zero_le _) zx); first | exact hh | exact hh.cast (by first | omega | (simp; try omega)) (by first | rfl | simp [u16v]))) ⟨(zA hN rfl), ⟨(zA hN rfl), trivial⟩⟩ ?_))))))
 rintro _ c ⟨b, rfl⟩
 have b := zQ b
 obtain ⟨hb, _⟩ := yE hb b
 have hl := hl.keep0 b
 refine op_eql (zA hN rfl) rfl (fun b => ?_) (fun b => ?_)
 ·
  refine zD (zA hN rfl) (zB (a _ _ (wp_ret (ret1 rfl hd (zA hN rfl) ⟨_, rfl, ?_⟩))))
  exact ⟨hb, congrArg Value.bool (decide_eq_true (cmpL_zero.1 b)).symm⟩
 refine zD (zA hN rfl) (zB (a _ _ (wp_ret (ret1 rfl hd (zA hN rfl) ⟨_, rfl, ?_⟩))))
 exact ⟨hb, congrArg Value.bool (decide_eq_false (fun h => b (cmpL_zero.2 h))).symm⟩

theorem com1 {base : Nat} {la rv wv : Value} {lab : List UInt16} {stp : Int} {dm : Bool} {p tb : Nat} {l : List UInt16} {lv : Value} {w : World} (hb9 : Bx w tb 155 [ptr p 0]) (hx : Bx w p 164 [la, .int .u64 stp, rv, wv, .bool dm]) (hLa : Own w base 46 1 la lab.length (lab.map u16v)) (hl : RdC w 0 w.heap.size 1 lv l.length (l.map u16v)) (h8 : lab.length ≤ 8) (hl8 : l.length ≤ 8) : Ret Try.prog 105 #[lv, (ptr tb 0)] w (fun v' w' => Below w.heap.size w w' ∧ v' = .bool (decide (l ≠ lab) && flowsL lab l)) := by
 have hb := Below.refl w.heap.size w
 refine enter (N := 19) Try.func105 rfl rfl (by simp) fun a hN hd hA => ?_
 have c : a.tmps.getD 0 undef = lv := hA 0 (by simp)
 have d : a.tmps.getD 1 undef = (ptr tb 0) := hA 1 (by simp)
 clear hA
 refine zF fun _ a => zH (zD rfl (zB (a _ _ (zF fun _ a => ?_))))
 refine zH (zG (zC hN rfl c) (zN one155 (zC hN rfl d) (hb9.cell rfl) (op_nil (zA hN rfl) (zM fld164_0 (zA hN rfl) (zN one54 (zA hN rfl) (hx.cell rfl) (zj ok98 (lcmpW_ret l lab _ _ _ (by first | assumption | omega | (simp only [List.length_append, List.length_cons, List.length_nil, List.length_drop, List.length_take]; omega) | (dsimp only; omega) | decide | (simp [keyV, be8_len]; done)) (by first | assumption | omega | (simp only [List.length_append, List.length_cons, List.length_nil, List.length_drop, List.length_take]; omega) | (dsimp only; omega) | decide | (simp [keyV, be8_len]; done)) (show RdC w 0 w.heap.size 1 lv l.length (l.map u16v) from by have hh : RdC w 0 w.heap.size 1 _ _ _ := (hl.mono (L' := 0) (B' := w.heap.size) (Nat.zero_le _) zx); first | exact hh | exact hh.cast (by first | omega | (simp; try omega)) (by first | rfl | simp [u16v])) (show RdC w 0 w.heap.size 1 la lab.length (lab.map u16v) from by have hh : RdC w 0 w.heap.size 1 _ _ _ := (hLa.rdw.mono (L' := 0) (B' := w.heap.size) (Nat.zero_le _) zx); first | exact hh | exact hh.cast (by first | omega | (simp; try omega)) (by first | rfl | simp [u16v]))) ⟨(zA hN rfl), ⟨(zA hN rfl), trivial⟩⟩ ?_))))))
 rintro _ e ⟨f, rfl⟩
 have f := zQ f
 obtain ⟨hb, _⟩ := yE hb f
 have hb9 := hb9.keep0 f
 have hx := hx.keep0 f
 have hLa := hLa.keep0 f
 have hl := hl.keep0 f
 refine op_neq (zA hN rfl) rfl (fun f => ?_) (fun f => ?_)
 ·
  refine zG (zA hN rfl) (zS (j := 7) (dj := 11) (b := true) rfl rfl rfl (zA hN rfl) (zN one155 (zC hN rfl d) (hb9.cell rfl) (zS (j := 7) (dj := 11) (b := true) rfl rfl rfl (zA hN rfl) (op_nil (zA hN rfl) (zS (j := 7) (dj := 11) (b := true) rfl rfl rfl (zA hN rfl) (zM fld164_0 (zA hN rfl) ?_))))))
  refine zS (j := 7) (dj := 11) (b := true) rfl rfl rfl (zA hN rfl) (zN one54 (zA hN rfl) (hx.cell rfl) (zS (j := 7) (dj := 11) (b := true) rfl rfl rfl (zA hN rfl) (zG (zC hN rfl c) (zS (j := 7) (dj := 11) (b := true) rfl rfl rfl (zA hN rfl) (zj ok106 (flowsW_ret lab l _ _ _ (by first | assumption | omega | (simp only [List.length_append, List.length_cons, List.length_nil, List.length_drop, List.length_take]; omega) | (dsimp only; omega) | decide | (simp [keyV, be8_len]; done)) (by first | assumption | omega | (simp only [List.length_append, List.length_cons, List.length_nil, List.length_drop, List.length_take]; omega) | (dsimp only; omega) | decide | (simp [keyV, be8_len]; done)) (show RdC e 0 e.heap.size 1 la lab.length (lab.map u16v) from by have hh : RdC e 0 e.heap.size 1 _ _ _ := (hLa.rdw.mono (L' := 0) (B' := e.heap.size) (Nat.zero_le _) zx); first | exact hh | exact hh.cast (by first | omega | (simp; try omega)) (by first | rfl | simp [u16v])) (show RdC e 0 e.heap.size 1 lv l.length (l.map u16v) from by have hh : RdC e 0 e.heap.size 1 _ _ _ := (hl.mono (L' := 0) (B' := e.heap.size) (Nat.zero_le _) zx); first | exact hh | exact hh.cast (by first | omega | (simp; try omega)) (by first | rfl | simp [u16v]))) ⟨(zA hN rfl), ⟨(zA hN rfl), trivial⟩⟩ ?_)))))
  rintro _ d ⟨c, rfl⟩
  have c := zQ c
  obtain ⟨hb, _⟩ := yE hb c
  have hl := hl.keep0 c
  refine zc (zA hN rfl) (zA hN rfl) (zD (zA hN rfl) (zB (a _ _ (wp_ret (ret1 rfl hd (zA hN rfl) ⟨_, rfl, ?_⟩)))))
  exact ⟨hb, congrArg Value.bool (by rw [decide_eq_true (show l ≠ lab from fun h => f (cmpL_zero.2 h)), Bool.true_and])⟩
 refine zG (zA hN rfl) (zR (j := 7) (dj := 11) (b := true) rfl rfl rfl (zA hN rfl) rfl rfl ?_)
 refine zR (j := 7) (dj := 11) (b := true) rfl rfl rfl (zA hN rfl) rfl rfl (zR (j := 7) (dj := 11) (b := true) rfl rfl rfl (zA hN rfl) rfl rfl (zR (j := 7) (dj := 11) (b := true) rfl rfl rfl (zA hN rfl) rfl rfl (zR (j := 7) (dj := 11) (b := true) rfl rfl rfl (zA hN rfl) rfl rfl (zR (j := 7) (dj := 11) (b := true) rfl rfl rfl (zA hN rfl) rfl rfl (zd (zA hN rfl) rfl (zD (zA hN rfl) (zB (a _ _ (wp_ret (ret1 rfl hd (zA hN rfl) ⟨_, rfl, ?_⟩))))))))))
 exact ⟨hb, congrArg Value.bool (by rw [decide_eq_false (show ¬ l ≠ lab from fun h => h (cmpL_zero.1 f)), Bool.false_and])⟩

theorem Ask_hit {base k m : Nat} {M : TM} {C : List TC} {F0 : Nat → Prop} {p : Nat} {T : TX} {FT : Nat → Prop} {Rs : List (List UInt8)} {rsv : Value} {x : List UInt8} {Lr Br : Nat} {n : Int} {w : World} (hbase : base ≤ w.heap.size) (hk : Bx w k 121 [.map (some m)]) (hM : MapC (.int .i64) pv w m (esOf M C)) (hA : LkAll w base M C F0) (hMo : MOk M) (hT : mget M n = some T) (hes : mget (esOf M C) n = some p) (hTx : TxR w base p T FT) (hsm : T.reads.length ≤ 50000 ∧ T.writes.length ≤ 50000) (hRl : Rs.length ≤ 1000) (hRs : RdC w Lr Br 1 rsv Rs.length (Rs.map sv)) (hBr : Br ≤ w.heap.size) (hap : ∀ y, FT y → y < Lr ∨ Br ≤ y) : Ret Try.prog 55 #[(ptr k 0), (.int .i64 n), rsv, (.string (bs x))] w (fun v' w' => Gr w w' FT ∧ v' = .tuple #[.int .i64 (askO M n T Rs x), .int .i64 0] ∧ ∃ FT', TxR w' base p (askT T Rs x (askO M n T Rs x)) FT' ∧ NewF w.heap.size FT FT') := by
 have hi_k := hk.lt
 have hi_m := hM.lt
 have a := hMo.1
 have c : TOk T := (hMo.2 _ (mget_mem hT)).2
 have e := c.1
 have hol := others_len (M := M) (n := n) (q := sameQ T)
 have djk := hA.notBx hk zz zz zz zz
 have djm := hA.notMap hM
 have hbT : ∀ y, FT y → base ≤ y := fun y hy => (hTx.lt y hy).1
 have hb := Gr.refl w FT
 refine enter (N := 91) Try.func55 rfl rfl (by simp) fun f hN hd hA => ?_
 have l : f.tmps.getD 0 undef = (ptr k 0) := hA 0 (by simp)
 have o : f.tmps.getD 1 undef = (.int .i64 n) := hA 1 (by simp)
 have r : f.tmps.getD 2 undef = rsv := hA 2 (by simp)
 have s : f.tmps.getD 3 undef = (.string (bs x)) := hA 3 (by simp)
 clear hA
 refine zF fun _ t => zH (zD rfl (zD rfl ?_))
 refine zB (t _ _ (zF fun _ t => zH (zG (zC hN rfl l) (zG (zC hN rfl o) (ze (vs := [(ptr k 0), (.int .i64 n)]) ok95 ⟨(zA hN rfl), ⟨(zA hN rfl), trivial⟩⟩ (Ret.flip (at_hit n hk hM hes)) ?_)))))
 rintro _ _ ⟨rfl, rfl⟩
 refine zG (zA hN rfl) (zW (zA hN rfl) rfl (zW (zA hN rfl) rfl (op_alloc (cs := [(Value.pointer none)]) zero155 rfl ?_)))
 intro F A D H u B
 have I : ¬ F0 A := fun hf => by have := (hA.lt _ hf).2; omega
 have J : ¬ FT A := fun hf => by have := (hTx.lt _ hf).2; omega
 obtain ⟨hb, _⟩ := yG hb B
 have hk := hk.keep0 B
 have K := u
 refine za (vs := [(ptr p 0)]) (cs' := [(ptr p 0)]) size155 (zA hN rfl) (zA hN rfl) rfl rfl rfl u (zI rfl) rfl ?_
 intro O u L
 have := L.size
 have hk := hk.keep L (sN hk K)
 have hM := (hM.keep0 B).keepB K L
 have hA := (hA.kz B).keepG (Gr.of L) (Dj.one I)
 have hTx := (hTx.kz B).keepG (Gr.of L) (Dj.one J)
 have hRs := (hRs.keep0 B).keep L sO
 have hb := hb.step1 L zx
 refine zD (zA hN rfl) (zB (t _ _ (zF fun _ t => zF fun _ P => zH (zG (zA hN rfl) ?_))))
 refine op_bin (v := .bool false) (zA hN rfl) rfl (by rw [binOp_neq]; rfl) (zB (P _ _ (wp_cond_false (zA hN rfl) (wp_skip (t _ _ (zF fun _ t => zH (zD rfl (zB (t _ _ (zF fun _ t => zF fun _ P => zH (zG (zC hN rfl l) (zG (zC hN rfl o) ?_))))))))))))
 obtain ⟨W, Z, X, Y, ab, Q, R, V, U, S, aa, ac⟩ := hTx.parts
 refine op_mkfn (cv := [(ptr A 0)]) ⟨(zA hN rfl), trivial⟩ (zj ok96 (others_ret (q := sameQ T) n zx hk hM hA hMo (g := 97) (fs := []) (cs := [(ptr A 0)]) ok97 (fun j hj w1 E => ask1 (u.keep0 (zQ E)) (Q.keep0 (zQ E)) (R.keep0 (zQ E)) (((hA.2.1 j hj).2.2.1.keep0 (zQ E)).rdw.mono (Nat.zero_le _) (Nat.le_refl _)) c.1 (hMo.2 _ (getD_mem hj)).2.1)) ⟨(zA hN rfl), ⟨(zA hN rfl), ⟨(zA hN rfl), trivial⟩⟩⟩ ?_)
 rintro af ag ⟨ad, ae⟩
 have ad := zQ ad
 obtain ⟨hb, _⟩ := yG hb ad
 have hk := hk.keep0 ad
 have hM := hM.keep0 ad
 have hA := hA.kz ad
 have hTx := hTx.kz ad
 have hRs := hRs.keep0 ad
 have u := u.keep0 ad
 have Q := Q.keep0 ad
 have R := R.keep0 ad
 have V := V.keep0 ad
 have U := all9 U fun _ h => h.keep0 ad
 have S := S.keep0 ad
 have ae := ae.mono (base' := w.heap.size) zx
 refine op_len_rd Try.underlying35 (zA hN rfl) ae.rdw (zG rfl (zB (P _ _ (wp_block (loop_m (fun mz_ az_ w' => ∃ (i : Nat), mz_ = (othersL M n (sameQ T)).length - i ∧ (Sl az_ 0 (ptr k 0)) ∧ (Sl az_ 2 rsv) ∧ (Sl az_ 3 (.string (bs x))) ∧ (Sl az_ 10 (ptr A 0)) ∧ (Sl az_ 30 af) ∧ (Sl az_ 31 (.int .i64 (((othersL M n (sameQ T)).length : Nat) : Int))) ∧ (Sl az_ 32 (.int .i64 ((i : Nat) : Int))) ∧ (Sl az_ 12 (.int .i64 (outW (stB M T Rs x) ((othersL M n (sameQ T)).take i)))) ∧ (i ≤ (othersL M n (sameQ T)).length) ∧ (((othersL M n (sameQ T)).take i).any (dieB M T Rs x) = false) ∧ (Gr w w' FT) ∧ (ag.heap.size ≤ w'.heap.size) ∧ (Bx w' k 121 [(Value.map (some m))]) ∧ (MapC (.int .i64) pv w' m (esOf M C)) ∧ (LkAll w' base M C F0) ∧ (TxR w' base p T FT) ∧ (RdC w' Lr Br 1 rsv Rs.length (Rs.map sv)) ∧ (Bx w' A 155 [(ptr p 0)]) ∧ (Bx w' p 164 [W, (.int .u64 T.stamp), Z, X, (.bool T.doomed)]) ∧ (Own w' base 46 1 W T.label.length (T.label.map u16v)) ∧ (Own w' base 169 2 Z Y.length (Y.flatMap cellsRd)) ∧ (∀ x9 ∈ (Y.map rdL), Own w' base 46 1 x9.1 x9.2.length (x9.2.map u16v)) ∧ (Own w' base 9 1 X T.writes.length (T.writes.map sv)) ∧ (Own w' w.heap.size 3 1 af (othersL M n (sameQ T)).length ((othersL M n (sameQ T)).map (Value.int .i64)))) _ hN hd ⟨0, rfl, (zL hN rfl l), (zL hN rfl r), (zL hN rfl s), (zU hN rfl), (zU hN rfl), (zU hN rfl), (zU hN rfl), (zU hN rfl), (Nat.zero_le _), rfl, hb, (Nat.le_refl _), hk, hM, hA, hTx, hRs, u, Q, R, V, U, S, ae⟩ ?_)))))
 rintro _ av ar ah ai ⟨i, rfl, aq, al, an, aj, ap, ao, am, ak, hi, hno, hb, au, hk, hM, hA, hTx, hRs, u, Q, R, V, U, S, ae⟩
 have := hb.size
 refine zF fun _ P => zH (op_lss (zC ah rfl am) (zC ah rfl ao) (fun aw => ?_) (fun aw => ?_))
 ·
  refine zB (P _ _ (zF fun _ P => wp_cond_true (zA ah rfl) (wp_skip (P _ _ (zF fun _ P => wp_block (zF fun _ J2 => zH (zh slt35 (zC ah rfl ap) ae.rdw (zC ah rfl am) zx zx ?_)))))))
  intro aB aC ay az ax
  refine zN (v := (Value.int .i64 ((othersL M n (sameQ T)).getD i 0))) one3 (zA ah rfl) (by have := ax 0 (.int .i64 ((othersL M n (sameQ T)).getD i 0)) zz (el_i64 (i := i) zx zx); simpa using this) (zD (zA ah rfl) (zB (J2 _ _ (zF fun _ J2 => zH ?_))))
  have ax := (others_mem (getD_mem (d := 0) (show i < (othersL M n (sameQ T)).length by omega))).1
  obtain ⟨T9, ay⟩ := mget_key ax
  obtain ⟨j9, p9, aM, aH, aI, D9, aG, aJ, aK, aL, aB, aN, ax, aF, aE, aD, aC, az⟩ := LkAll.key hA ay
  have aG : txAt M ((othersL M n (sameQ T)).getD i 0) = T9 := by unfold txAt; rw [ay]; rfl
  have aH : TOk T9 := (hMo.2 _ (mget_mem ay)).2
  refine zG (zC ah rfl aq) ?_
  refine op_nil (zA ah rfl) (zM fld121_0 (zA ah rfl) (zN one119 (zA ah rfl) (hk.cell rfl) (zG (zA ah rfl) (op_look_hit (k := ((othersL M n (sameQ T)).getD i 0)) (v := p9) Try.underlying119 (Go.Gx.key_int Try.underlying3) zero155 (zA ah rfl) (zA ah rfl) hM aB (zD (zA ah rfl) (zB (J2 _ _ (wp_block (zF fun _ J2 => zH (zG (zA ah rfl) ?_))))))))))
  refine zG (zC ah rfl al) (zG (zC ah rfl an) (zN one155 (zC ah rfl aj) (u.cell rfl) (op_nil (zA ah rfl) (zM fld164_0 (zA ah rfl) (zN one54 (zA ah rfl) (Q.cell rfl) (zj ok99 (standsT zx ax aF aE aD aC ⟨aH.1, TOk.rd aH az⟩ (hRs.mono (Nat.zero_le _) zx) (R.rdw.mono (Nat.zero_le _) zx) (by first | exact c.1 | omega)) ⟨(zA ah rfl), ⟨(zA ah rfl), ⟨(zA ah rfl), ⟨(zA ah rfl), trivial⟩⟩⟩⟩ ?_))))))
  rintro _ aB ⟨ay, rfl⟩
  have ay := zQ ay
  obtain ⟨hb, _⟩ := yG hb ay
  have hk := hk.keep0 ay
  have hM := hM.keep0 ay
  have hA := hA.kz ay
  have hTx := hTx.kz ay
  have hRs := hRs.keep0 ay
  have u := u.keep0 ay
  have Q := Q.keep0 ay
  have R := R.keep0 ay
  have V := V.keep0 ay
  have U := all9 U fun _ h => h.keep0 ay
  have S := S.keep0 ay
  have ae := ae.keep0 ay
  have ax := ax.keep0 ay
  rcases Bool.eq_false_or_eq_true ((standB ⟨T9.label, T9.stamp, D9.map rOf, T9.writes, T9.doomed⟩ Rs x T.label)) with ay | ay
  ·
   rw [ay]
   refine op_not (zA ah rfl) (zD (zA ah rfl) (zB (J2 _ _ (wp_cond_false (zA ah rfl) (zF fun _ J2 => reg_still mixed zy ?_)))))
   intro aC aB
   obtain ⟨hb, _⟩ := yG hb aB
   have hk := hk.keep0 aB
   have hM := hM.keep0 aB
   have hA := hA.kz aB
   have hTx := hTx.kz aB
   have hRs := hRs.keep0 aB
   have u := u.keep0 aB
   have Q := Q.keep0 aB
   have R := R.keep0 aB
   have V := V.keep0 aB
   have U := all9 U fun _ h => h.keep0 aB
   have S := S.keep0 aB
   have ae := ae.keep0 aB
   have ax := ax.keep0 aB
   refine st_step rfl (fun _ h9 => zG (zA ah rfl) h9) (st_step rfl (fun _ h9 => op_nil (zA ah rfl) h9) ?_)
   refine st_step rfl (fun _ h9 => zM fld164_1 (zA ah rfl) h9) (st_step rfl (fun _ h9 => zN one61 (zA ah rfl) (ax.cell rfl) h9) (st_step rfl (fun _ h9 => zN one155 (zC ah rfl aj) (u.cell rfl) h9) (st_step rfl (fun _ h9 => op_nil (zA ah rfl) h9) (st_step rfl (fun _ h9 => zM fld164_1 (zA ah rfl) h9) (st_step rfl (fun _ h9 => zN one61 (zA ah rfl) (Q.cell rfl) h9) (st_step rfl (fun _ h9 => op_cmp (b := (decide (T9.stamp ≤ T.stamp))) (zA ah rfl) (zA ah rfl) (b_leq rfl) h9) (st_step rfl (fun _ h9 => zD (zA ah rfl) h9) (st_nil (J2 _ _ (wp_cond_split (zA ah rfl) (fun aB => ?_) (fun aB => ?_)))))))))))
   ·
    have aB := of_decide_eq_true aB
    refine zF fun _ J2 => zH (zD rfl (zD rfl (zB (J2 _ _ (wp_ret (zb (zb (zO (zO (zb (zO ( (ret2 rfl ai (zA ah rfl) (zA ah rfl) ⟨_, rfl, ?_⟩)))))))))))))
    have ax : stB M T Rs x ((othersL M n (sameQ T)).getD i 0) = true := by unfold stB; rw [aG]; rw [az] at ay; exact ay
    have hdi : dieB M T Rs x ((othersL M n (sameQ T)).getD i 0) = true := by unfold dieB; rw [ax, aG, decide_eq_true aB]; rfl
    have ho : askO M n T Rs x = 3 := if_pos (any_hit (d := 0) (i := i) zx hdi)
    have aC : askT T Rs x (askO M n T Rs x) = T := if_neg (by rw [ho]; decide)
    rw [aC, ho]
    exact ⟨hb, rfl, _, hTx, (NewF.refl _ _)⟩
   have aB := of_decide_eq_false aB
   refine zH (zD rfl (zB (P _ _ (zH (op_add (zC ah rfl am) rfl (add64 zx) (zG (zA ah rfl) (zB ?_)))))))
   -- round 33T 50T 52F
   have ax : stB M T Rs x ((othersL M n (sameQ T)).getD i 0) = true := by unfold stB; rw [aG]; rw [az] at ay; exact ay
   have hdi : dieB M T Rs x ((othersL M n (sameQ T)).getD i 0) = false := by unfold dieB; rw [ax, aG, decide_eq_false aB]; rfl
   exact zg _ ah ai ⟨(i + 1), rfl, (zL ah rfl aq), (zL ah rfl al), (zL ah rfl an), (zL ah rfl aj), (zL ah rfl ap), (zL ah rfl ao), (zU ah rfl).trans (congrArg (Value.int .i64) zx), (zU ah rfl).trans (congrArg (Value.int .i64) (outW_t zx ax).symm), zx, (any_step (d := 0) zx hno hdi), hb, zx, hk, hM, hA, hTx, hRs, u, Q, R, V, U, S, ae⟩ zx
  rw [ay]
  refine op_not (zA ah rfl) (zD (zA ah rfl) (zB (J2 _ _ (wp_cond_true (zA ah rfl) (wp_skip (P _ _ (zH (op_add (zC ah rfl am) rfl (add64 zx) (zG (zA ah rfl) (zB ?_))))))))))
  -- round 33T 50F
  have ax : stB M T Rs x ((othersL M n (sameQ T)).getD i 0) = false := by unfold stB; rw [aG]; rw [az] at ay; exact ay
  have hdi : dieB M T Rs x ((othersL M n (sameQ T)).getD i 0) = false := by unfold dieB; rw [ax]; rfl
  exact zg _ ah ai ⟨(i + 1), rfl, (zL ah rfl aq), (zL ah rfl al), (zL ah rfl an), (zL ah rfl aj), (zL ah rfl ap), (zL ah rfl ao), (zU ah rfl).trans (congrArg (Value.int .i64) zx), (zL ah rfl ak).trans (congrArg (Value.int .i64) (outW_f zx ax).symm), zx, (any_step (d := 0) zx hno hdi), hb, zx, hk, hM, hA, hTx, hRs, u, Q, R, V, U, S, ae⟩ zx
 refine zB (P _ _ (zF fun _ P => wp_cond_false (zA ah rfl) (wp_exit (then_exit (then_exit (blk_hit (t _ _ (zF fun _ t => zF fun _ P => zH ?_))))))))
 have hnoe := any_end zx hno
 have hte : (othersL M n (sameQ T)).take i = (othersL M n (sameQ T)) := List.take_of_length_le zx
 refine zG (zC ah rfl ak) (op_eql (zA ah rfl) rfl (fun ax => ?_) (fun ax => ?_))
 ·
  refine zB (P _ _ (wp_cond_true (zA ah rfl) (zF fun _ P => zF fun _ J2 => zH (zG (zC ah rfl al) (op_len_rd Try.underlying26 (zA ah rfl) hRs (zG rfl (zB (J2 _ _ (wp_block (loop_m (fun mz_ az_ w' => ∃ (i2 : Nat) (FK : Nat → Prop), mz_ = Rs.length - i2 ∧ (Sl az_ 3 (.string (bs x))) ∧ (Sl az_ 10 (ptr A 0)) ∧ (Sl az_ 12 (.int .i64 (outW (stB M T Rs x) ((othersL M n (sameQ T)).take i)))) ∧ (Sl az_ 65 rsv) ∧ (Sl az_ 66 (.int .i64 ((Rs.length : Nat) : Int))) ∧ (Sl az_ 67 (.int .i64 ((i2 : Nat) : Int))) ∧ (i2 ≤ Rs.length) ∧ (NewF w.heap.size FT FK) ∧ (Gr w w' FT) ∧ (ar.heap.size ≤ w'.heap.size) ∧ (Bx w' k 121 [(Value.map (some m))]) ∧ (MapC (.int .i64) pv w' m (esOf M C)) ∧ (RdC w' Lr Br 1 rsv Rs.length (Rs.map sv)) ∧ (Bx w' A 155 [(ptr p 0)]) ∧ (TxR w' base p ({ T with reads := gotR T (Rs.take i2) }) FK)) _ ah ai ⟨0, FT, rfl, (zL ah rfl an), (zL ah rfl aj), (zL ah rfl ak), (zU ah rfl), (zU ah rfl), (zU ah rfl), (Nat.zero_le _), (NewF.refl _ _), hb, (Nat.le_refl _), hk, hM, hRs, u, hTx⟩ ?_))))))))))
  rintro _ aK aI ay aD ⟨i2, FK, rfl, aB, az, aE, aH, aG, aF, aJ, hNK, hb, aL, hk, hM, hRs, u, hT⟩
  have := hb.size
  refine zF fun _ J2 => zH (op_lss (zC ay rfl aF) (zC ay rfl aG) (fun aM => ?_) (fun aM => ?_))
  ·
   refine zB (J2 _ _ (zF fun _ J2 => wp_cond_true (zA ay rfl) (wp_skip (J2 _ _ (zF fun _ J2 => wp_block (zF fun _ J3 => zH (zh slt26 (zC ay rfl aH) hRs (zC ay rfl aF) zx zx ?_)))))))
   intro aQ aO aP aR aN
   refine zN (v := (Value.string (bs (Rs.getD i2 [])))) one9 (zA ay rfl) (by have := aN 0 (.string (bs (Rs.getD i2 []))) zz (el_sv (i := i2) zx zx); simpa using this) (zD (zA ay rfl) (zB (J3 _ _ ?_)))
   obtain ⟨W, Z, X, Y, ab, Q, R, V, U, S, aa, ac⟩ := hT.parts
   refine reg_split (hd := [_, _, _, _, _, _, _, _, _, _]) (tl := _) 10 mixed zy rfl rfl (any_env (φ := phiV [(fun uz => uz = (ptr p 0)), (fun uz => uz = (ptr p 0)), (fun uz => uz = (ptr p 2)), (fun uz => uz = (.string (bs (Rs.getD i2 [])))), (fun uz => uz = (ptr p 0)), (fun uz => uz = (ptr p 0)), (fun uz => uz = (ptr p 0)), (fun uz => uz = W), (fun _ => True), (fun _ => True)]) (G := fun w' => Bx w' A 155 [(ptr p 0)] ∧ Bx w' p 164 [W, (.int .u64 T.stamp), Z, X, (.bool T.doomed)]) [8, 9] zy zy zy zy ay (fun w1 w2 E h => by obtain ⟨h0, h1⟩ := h; exact ⟨h0.keep0 E, h1.keep0 E⟩) ⟨u, Q⟩ (ObEs.cons ?_ (ObEs.cons ?_ (ObEs.cons ?_ (ObEs.cons ?_ (ObEs.cons ?_ (ObEs.cons ?_ (ObEs.cons ?_ (ObEs.cons ?_ (ObEs.pass rfl (ObEs.pass rfl (ObEs.nil))))))))))) (by simp only [putsL_defers]) ?_)
   ·
    intro eA aA wA hNA hGA hbsA hdpA
    have aS := (hbsA 10 rfl).trans (zL ay rfl az)
    obtain ⟨u, Q⟩ := hGA
    refine zN one155 (zC hNA rfl aS) (u.cell rfl) ?_
    exact obE_end rfl rfl rfl
   ·
    intro eA aA wA hNA hGA hbsA hdpA
    have aT : Sl aA 71 (ptr p 0) := (hdpA 0 _ 71 zy rfl rfl).2 rfl
    refine op_nil (zC hNA rfl aT) ?_
    exact obE_end rfl rfl rfl
   ·
    intro eA aA wA hNA hGA hbsA hdpA
    have aT : Sl aA 72 (ptr p 0) := (hdpA 1 _ 72 zy rfl rfl).2 rfl
    refine zM fld164_2 (zC hNA rfl aT) ?_
    exact obE_end rfl rfl rfl
   ·
    intro eA aA wA hNA hGA hbsA hdpA
    have aT := (hbsA 17 rfl).trans (zU ay rfl)
    refine zG (zC hNA rfl aT) ?_
    exact obE_end rfl rfl rfl
   ·
    intro eA aA wA hNA hGA hbsA hdpA
    have aS := (hbsA 10 rfl).trans (zL ay rfl az)
    obtain ⟨u, Q⟩ := hGA
    refine zN one155 (zC hNA rfl aS) (u.cell rfl) ?_
    exact obE_end rfl rfl rfl
   ·
    intro eA aA wA hNA hGA hbsA hdpA
    have aS : Sl aA 75 (ptr p 0) := (hdpA 4 _ 75 zy rfl rfl).2 rfl
    refine op_nil (zC hNA rfl aS) ?_
    exact obE_end rfl rfl rfl
   ·
    intro eA aA wA hNA hGA hbsA hdpA
    have aS : Sl aA 76 (ptr p 0) := (hdpA 5 _ 76 zy rfl rfl).2 rfl
    refine zM fld164_0 (zC hNA rfl aS) ?_
    exact obE_end rfl rfl rfl
   ·
    intro eA aA wA hNA hGA hbsA hdpA
    have aS : Sl aA 77 (ptr p 0) := (hdpA 6 _ 77 zy rfl rfl).2 rfl
    obtain ⟨u, Q⟩ := hGA
    refine zN one54 (zC hNA rfl aS) (Q.cell rfl) ?_
    exact obE_end rfl rfl rfl
   intro aX aS _ aT aV aW aU o_ ho_; obtain rfl := zE ho_
   obtain ⟨hb, _⟩ := yG hb aS
   have hT := hT.kz aS
   have R := R.keep0 aS
   have aY : Sl aT 78 W := (aU 7 _ 78 zy rfl rfl).2 rfl
   refine zj ok77 (CloneL T.label _ _ zx (R.rdw.mono (Nat.zero_le _) zx)) ⟨(zC aV rfl aY), trivial⟩ ?_
   rintro a1 a2 ⟨a0, aZ⟩
   have a0 := zQ a0
   obtain ⟨hb, _⟩ := yG hb a0
   have u := (u.keep0 aS).keep0 a0
   have hT := hT.kz a0
   have Q := (Q.keep0 aS).keep0 a0
   have aZ := aZ.mono (base' := w.heap.size) zx
   refine ke_end rfl zz rfl ⟨u, Q⟩ ?_
   intro a8 a3 _ a5 a6 a7 a4 o_ ho_; obtain rfl := zE ho_
   obtain ⟨hb, _⟩ := yG hb a3
   have u := u.keep0 a3
   have hT := hT.kz a3
   have Q := Q.keep0 a3
   have aZ := aZ.keep0 a3
   have a : Sl a5 74 (.string (bs (Rs.getD i2 []))) := (a4 3 _ 74 zy rfl rfl).2 rfl
   have e : Sl a5 79 a1 := (zE ((a4 8 _ 79 zy rfl rfl).1 0 rfl)).symm
   refine zf (pv := [(0, (.string (bs (Rs.getD i2 [])))), (1, a1)]) (v := (Value.agg #[(.string (bs (Rs.getD i2 []))), a1])) ⟨rfl, (zC a6 rfl a), ⟨rfl, (zC a6 rfl e), trivial⟩⟩ (by obtain ⟨_, _, _, rfl⟩ := aZ.sl; kernel_rfl) (ke_end rfl zz rfl ⟨u, Q⟩ ?_)
   intro s e o a l f r
   have l := l.trans ((by simp only [putsL_defers] : _ = _).trans aD)
   obtain ⟨hb, _⟩ := yG hb e
   have hk := (((hk.keep0 aS).keep0 a0).keep0 a3).keep0 e
   have hM := (((hM.keep0 aS).keep0 a0).keep0 a3).keep0 e
   have u := u.keep0 e
   have hT := hT.kz e
   have aZ := aZ.keep0 e
   have s := (f 3 rfl).trans (zL ay rfl aB)
   have A := (f 10 rfl).trans (zL ay rfl az)
   have B := (f 12 rfl).trans (zL ay rfl aE)
   have D := (f 65 rfl).trans (zL ay rfl aH)
   have F := (f 66 rfl).trans (zL ay rfl aG)
   have H := (f 67 rfl).trans (zL ay rfl aF)
   have f : Sl o 73 (ptr p 2) := (r 2 _ 73 rfl rfl).2 rfl
   have I : Sl o 80 (.agg #[(.string (bs (Rs.getD i2 []))), a1]) := (zE ((r 9 _ 80 rfl rfl).1 1 rfl)).symm
   refine split_end (from_seq (tl := [_]) zz zy rfl (zj ok100 (addR_T (Rs.getD i2 []) hT (aZ.mono zx) zx ⟨c.1, (gotR_ok c.1 (Rs.take i2) T rfl c.2).1⟩ (by have h9 := (gotR_ok c.1 (Rs.take i2) T rfl c.2).2; simp only [List.length_take] at h9; show (gotR T (Rs.take i2)).length ≤ 100000; omega)) ⟨(zC a rfl f), ⟨(zC a rfl I), ⟨rfl, trivial⟩⟩⟩ ?_))
   rintro K I ⟨f, r, o, J⟩
   have K := fun y hy => (aZ.lt y hy).1
   have hT_old := hT
   have L : NewF w.heap.size FT r := fun y hy => (J y hy).elim (fun q => hNK y q) (fun q => .inr (q.elim (fun q => K y q) (fun q => by omega)))
   have := f.size
   have hk := hk.keepG f (hT_old.notBx hk zz zz zz zz)
   have hM := hM.keepG f (hT_old.notMap hM)
   have hRs := ((((hRs.keep0 aS).keep0 a0).keep0 a3).keep0 e).keepG f (fun k hk => (hNK k hk).elim (fun q => hap k q) (fun q => .inr zx))
   have u := u.keepG f (hT_old.notBx u zz zz zz zz)
   have hb := hb.stepF f (fun y hy h9 => (hNK y h9).resolve_right zx)
   have o : TxR I base p ({ T with reads := addR (gotR T (Rs.take i2)) ((Rs.getD i2 []), T.label) }) r := o
   refine zB (J2 _ _ (zH (op_add (zC a rfl H) rfl (add64 zx) (zG (zA a rfl) (zB ?_)))))
   -- round 33F 64T 68T
   exact zg _ a l ⟨(i2 + 1), r, rfl, (zL a rfl s), (zL a rfl A), (zL a rfl B), (zL a rfl D), (zL a rfl F), (zU a rfl).trans (congrArg (Value.int .i64) zx), zx, L, hb, zx, hk, hM, hRs, u, (by rw [gotR_step zx]; exact o)⟩ zx
  refine zB (J2 _ _ (zF fun _ J2 => wp_cond_false (zA ay rfl) (wp_exit (then_exit (then_exit (blk_hit (P _ _ (zF fun _ P => zH (zG (zC ay rfl aB) (op_sneq (zA ay rfl) rfl (fun a => ?_) (fun a => ?_)))))))))))
  ·
   refine zB (P _ _ (wp_cond_true (zA ay rfl) (zH (zN one155 (zC ay rfl az) (u.cell rfl) (op_nil (zA ay rfl) (zM fld164_3 (zA ay rfl) (zG (zC ay rfl aB) (zj ok103 (addS_T x hT zx ⟨c.1, (gotR_ok c.1 (Rs.take i2) T rfl c.2).1⟩ (show T.writes.length ≤ 100000 by omega)) ⟨(zA ay rfl), ⟨(zA ay rfl), ⟨rfl, trivial⟩⟩⟩ ?_))))))))
   rintro r l ⟨f, e, c, o⟩
   have r : NewF w.heap.size FT e := fun y hy => (o y hy).elim (fun q => hNK y q) (fun q => .inr zx)
   have := f.size
   have hb := hb.stepF f (fun y hy h9 => (hNK y h9).resolve_right zx)
   have c : TxR l base p ({ T with reads := gotR T (Rs.take i2), writes := addW T.writes x }) e := c
   refine zB (t _ _ (zF fun _ t => zH (zG (zC ay rfl aE) (zD (zA ay rfl) (zD rfl (zB (t _ _ (wp_ret (ret2 rfl aD (zA ay rfl) (zA ay rfl) ⟨_, rfl, ?_⟩)))))))))
   have hv := ax
   rw [hte] at ax
   have ho : askO M n T Rs x = 1 := (if_neg (by rw [hnoe]; decide)).trans ax
   have aC : askT T Rs x (askO M n T Rs x) = { T with reads := gotR T Rs, writes := gotW T x } := if_pos ho
   have hre : Rs.take i2 = Rs := List.take_of_length_le zx
   have hgw : gotW T x = addW T.writes x := if_neg a
   rw [aC, ho, hgw]
   rw [hre] at c
   exact ⟨hb, congrArg (fun z : Int => Value.tuple #[.int .i64 z, .int .i64 0]) hv, _, c, r⟩
  refine zB (P _ _ (wp_cond_false (zA ay rfl) (wp_skip (t _ _ (zF fun _ t => zH (zG (zC ay rfl aE) (zD (zA ay rfl) (zD rfl (zB (t _ _ (wp_ret (ret2 rfl aD (zA ay rfl) (zA ay rfl) ⟨_, rfl, ?_⟩))))))))))))
  have hv := ax
  rw [hte] at ax
  have ho : askO M n T Rs x = 1 := (if_neg (by rw [hnoe]; decide)).trans ax
  have aC : askT T Rs x (askO M n T Rs x) = { T with reads := gotR T Rs, writes := gotW T x } := if_pos ho
  have hre : Rs.take i2 = Rs := List.take_of_length_le zx
  have hgw : gotW T x = T.writes := if_pos a
  rw [aC, ho, hgw]
  rw [hre] at hT
  exact ⟨hb, congrArg (fun z : Int => Value.tuple #[.int .i64 z, .int .i64 0]) hv, _, hT, hNK⟩
 refine zB (P _ _ (wp_cond_false (zA ah rfl) (wp_skip (t _ _ (zF fun _ t => zH (zG (zC ah rfl ak) (zD (zA ah rfl) (zD rfl (zB (t _ _ (wp_ret (ret2 rfl ai (zA ah rfl) (zA ah rfl) ⟨_, rfl, ?_⟩))))))))))))
 rw [hte] at ax
 have ho : askO M n T Rs x = outW (stB M T Rs x) (othersL M n (sameQ T)) := if_neg (by rw [hnoe]; decide)
 have aC : askT T Rs x (askO M n T Rs x) = T := if_neg (by rw [ho]; exact ax)
 rw [aC, ho]
 exact ⟨hb, congrArg (fun z : Int => Value.tuple #[.int .i64 z, .int .i64 0]) (by rw [hte]), _, hTx, (NewF.refl _ _)⟩

theorem Ask_miss {rsv : Value} {x : List UInt8} {n : Int} {k m : Nat} {es : List (Int × Nat)} {w : World} (hk : Bx w k 121 [.map (some m)]) (hM : MapC (.int .i64) pv w m es) (hg : mget es n = none)  : Ret Try.prog 55 #[(ptr k 0), (.int .i64 n), rsv, (.string (bs x))] w (fun v' w' => Below w.heap.size w w' ∧ v' = .tuple #[.int .i64 0, .int .i64 18]) := by
 have hb := Below.refl w.heap.size w
 refine enter (N := 91) Try.func55 rfl rfl (by simp) fun a hN hd hA => ?_
 have b : a.tmps.getD 0 undef = (ptr k 0) := hA 0 (by simp)
 have c : a.tmps.getD 1 undef = (.int .i64 n) := hA 1 (by simp)
 clear hA
 refine zF fun _ a => zH (zD rfl (zD rfl ?_))
 refine zB (a _ _ (zF fun _ a => zH (zG (zC hN rfl b) (zG (zC hN rfl c) (ze (vs := [(ptr k 0), (.int .i64 n)]) ok95 ⟨(zA hN rfl), ⟨(zA hN rfl), trivial⟩⟩ (Ret.flip (at_miss n hk hM hg)) ?_)))))
 rintro _ _ ⟨rfl, rfl⟩
 refine zG (zA hN rfl) (zW (zA hN rfl) rfl (zW (zA hN rfl) rfl (op_alloc (cs := [(Value.pointer none)]) zero155 rfl ?_)))
 intro e f d g b c
 obtain ⟨hb, _⟩ := yE hb c
 refine za (vs := [(Value.pointer none)]) (cs' := [(Value.pointer none)]) size155 (zA hN rfl) (zA hN rfl) rfl rfl rfl b (zI rfl) rfl ?_
 intro d b c
 have := c.size
 have hb := below_step1 hb c hb.size zx
 refine zD (zA hN rfl) (zB (a _ _ (zF fun _ a => zF fun _ b => zH ?_)))
 refine zG (zA hN rfl) (op_bin (v := .bool true) (zA hN rfl) rfl (by rw [binOp_neq]; rfl) (zB (b _ _ (wp_cond_true (zA hN rfl) (zF fun _ b => zH (zG (zA hN rfl) (zD rfl (zD (zA hN rfl) (zB (b _ _ (wp_ret (zO ( (ret2 rfl hd (zA hN rfl) (zA hN rfl) ⟨_, rfl, ?_⟩))))))))))))))
 exact ⟨hb, rfl⟩

theorem Ask_nomap {rsv : Value} {x : List UInt8} {n : Int} {k : Nat} {w : World} (hk : Bx w k 121 [.map none])  : Ret Try.prog 55 #[(ptr k 0), (.int .i64 n), rsv, (.string (bs x))] w (fun v' w' => Below w.heap.size w w' ∧ v' = .tuple #[.int .i64 0, .int .i64 18]) := by
 have hb := Below.refl w.heap.size w
 refine enter (N := 91) Try.func55 rfl rfl (by simp) fun a hN hd hA => ?_
 have b : a.tmps.getD 0 undef = (ptr k 0) := hA 0 (by simp)
 have c : a.tmps.getD 1 undef = (.int .i64 n) := hA 1 (by simp)
 clear hA
 refine zF fun _ a => zH (zD rfl (zD rfl ?_))
 refine zB (a _ _ (zF fun _ a => zH (zG (zC hN rfl b) (zG (zC hN rfl c) (ze (vs := [(ptr k 0), (.int .i64 n)]) ok95 ⟨(zA hN rfl), ⟨(zA hN rfl), trivial⟩⟩ (Ret.flip (at_nomap n hk)) ?_)))))
 rintro _ _ ⟨rfl, rfl⟩
 refine zG (zA hN rfl) (zW (zA hN rfl) rfl (zW (zA hN rfl) rfl (op_alloc (cs := [(Value.pointer none)]) zero155 rfl ?_)))
 intro f d g e b c
 obtain ⟨hb, _⟩ := yE hb c
 refine za (vs := [(Value.pointer none)]) (cs' := [(Value.pointer none)]) size155 (zA hN rfl) (zA hN rfl) rfl rfl rfl b (zI rfl) rfl ?_
 intro d b c
 have := c.size
 have hb := below_step1 hb c hb.size zx
 refine zD (zA hN rfl) (zB (a _ _ (zF fun _ a => zF fun _ b => zH ?_)))
 refine zG (zA hN rfl) (op_bin (v := .bool true) (zA hN rfl) rfl (by rw [binOp_neq]; rfl) (zB (b _ _ (wp_cond_true (zA hN rfl) (zF fun _ b => zH (zG (zA hN rfl) (zD rfl (zD (zA hN rfl) (zB (b _ _ (wp_ret (zO ( (ret2 rfl hd (zA hN rfl) (zA hN rfl) ⟨_, rfl, ?_⟩))))))))))))))
 exact ⟨hb, rfl⟩

theorem com2 {base p : Nat} {la rv wv : Value} {lab : List UInt16} {stp : Int} {D : List RD} {Wr : List (List UInt8)} {dm : Bool} {y : List UInt8} {la2 rv2 wv2 : Value} {lab2 : List UInt16} {s2 : Int} {d2 : Bool} {p2 ob tb : Nat} {w : World} (hbase : base ≤ w.heap.size) (hx : Bx w p 164 [la, .int .u64 stp, rv, wv, .bool dm]) (hLa : Own w base 46 1 la lab.length (lab.map u16v)) (hR : Own w base 169 2 rv D.length (D.flatMap cellsRd)) (hD : ∀ x9 ∈ D.map rdL, Own w base 46 1 x9.1 x9.2.length (x9.2.map u16v)) (hW : Own w base 9 1 wv Wr.length (Wr.map sv)) (h8 : lab.length ≤ 8 ∧ ∀ r ∈ D, r.lab.length ≤ 8) (hb9 : Bx w ob 155 [ptr p 0]) (hb8 : Bx w tb 155 [ptr p2 0]) (hx2 : Bx w p2 164 [la2, .int .u64 s2, rv2, wv2, .bool d2]) (hL2 : Own w base 46 1 la2 lab2.length (lab2.map u16v)) (h82 : lab2.length ≤ 8) : Ret Try.prog 108 #[(.string (bs y)), (ptr ob 0), (ptr tb 0)] w (fun v' w' => Below w.heap.size w w' ∧ v' = .bool (covB (D.map rOf) y lab2)) := by
 have hb := Below.refl w.heap.size w
 refine enter (N := 12) Try.func108 rfl rfl (by simp) fun a hN hd hA => ?_
 have b : a.tmps.getD 0 undef = (.string (bs y)) := hA 0 (by simp)
 have c : a.tmps.getD 1 undef = (ptr ob 0) := hA 1 (by simp)
 have s2 : a.tmps.getD 2 undef = (ptr tb 0) := hA 2 (by simp)
 clear hA
 refine zF fun _ a => zH (zD rfl (zB (a _ _ (zF fun _ a => reg_from mixed ?_))))
 intro e d
 obtain ⟨hb, _⟩ := yE hb d
 have hb9 := hb9.keep0 d
 have hb8 := hb8.keep0 d
 have hx2 := hx2.keep0 d
 have hL2 := hL2.keep0 d
 have hx := hx.keep0 d
 have hLa := hLa.keep0 d
 have hR := hR.keep0 d
 have hD := all9 hD fun _ h => h.keep0 d
 have hW := hW.keep0 d
 refine from_still (m := 6) 6 (hd := [_, _, _, _, _, _]) zy rfl rfl (st_step rfl (fun _ d => zN one155 (zC hN rfl c) (hb9.cell rfl) d) (st_step rfl (fun _ d => zG (zC hN rfl b) d) (st_step rfl (fun _ d => zN one155 (zC hN rfl s2) (hb8.cell rfl) d) ?_)))
 refine st_step rfl (fun _ d => op_nil (zA hN rfl) d) (st_step rfl (fun _ d => zM fld164_0 (zA hN rfl) d) (st_step rfl (fun _ d => zN one54 (zA hN rfl) (hx2.cell rfl) d) (st_nil (from_seq (tl := [_, _]) zz zy rfl (zj ok109 (coversT zx hx hLa hR hD hW h8 (hL2.rdw.mono (Nat.zero_le _) zx) zx) ⟨(zA hN rfl), ⟨(zA hN rfl), ⟨(zA hN rfl), trivial⟩⟩⟩ ?_)))))
 rintro _ c ⟨b, rfl⟩
 have b := zQ b
 obtain ⟨hb, _⟩ := yE hb b
 refine zD (zA hN rfl) (zB (a _ _ (wp_ret (ret1 rfl hd (zA hN rfl) ⟨_, rfl, ?_⟩))))
 exact ⟨hb, rfl⟩

theorem Com_hit {base k m : Nat} {M : TM} {C : List TC} {F0 : Nat → Prop} {T : TX} {n : Int} {w : World} (hbase : base ≤ w.heap.size) (hk : Bx w k 121 [.map (some m)]) (hM : MapC (.int .i64) pv w m (esOf M C)) (hA : LkAll w base M C F0) (hMo : MOk M) (hT : mget M n = some T) : Ret Try.prog 60 #[(ptr k 0), (.int .i64 n)] w (fun v' w' => Gr w w' (fun y => F0 y ∨ y = m) ∧ ∃ v, v' = .tuple #[v, .int .i64 0] ∧ Own w' w.heap.size 3 1 v ((othersL M n (upQ T)).filter (hitB M T)).length (((othersL M n (upQ T)).filter (hitB M T)).map (Value.int .i64)) ∧ MapC (.int .i64) pv w' m (mdel (esOf M C) n) ∧ LkAll w' base (doomL M T (othersL M n (upQ T))) C F0) := by
 have hi_k := hk.lt
 have hi_m := hM.lt
 have a := hMo.1
 have a : TOk T := (hMo.2 _ (mget_mem hT)).2
 have b := a.1
 have hol := others_len (M := M) (n := n) (q := upQ T)
 have djk := hA.notBx hk zz zz zz zz
 have djm := hA.notMap hM
 have b := hA.1
 have hnd : (M.map Prod.fst).Nodup := by have h9 := hM.nodup (Go.Gx.key_int (P := Try.prog) Try.underlying3); rw [esOf_keys b] at h9; exact h9
 obtain ⟨H, s, A, z, u, t, x, I, B, G, F, J, f, l, p, c, o, D⟩ := LkAll.key hA hT
 have hb := Gr.refl w (fun y => F0 y ∨ y = m)
 refine enter (N := 55) Try.func60 rfl rfl (by simp) fun H hN hd hA => ?_
 have I : H.tmps.getD 0 undef = (ptr k 0) := hA 0 (by simp)
 have J : H.tmps.getD 1 undef = (.int .i64 n) := hA 1 (by simp)
 clear hA
 refine zF fun _ H => zH (zD rfl (zD rfl ?_))
 refine zB (H _ _ (zF fun _ H => zH (zG (zC hN rfl I) (zG (zC hN rfl J) (ze (vs := [(ptr k 0), (.int .i64 n)]) ok95 ⟨(zA hN rfl), ⟨(zA hN rfl), trivial⟩⟩ (Ret.flip (at_hit n hk hM F)) ?_)))))
 rintro _ _ ⟨rfl, rfl⟩
 refine zG (zA hN rfl) (zW (zA hN rfl) rfl (zW (zA hN rfl) rfl (op_alloc (cs := [(Value.pointer none)]) zero155 rfl ?_)))
 intro O L R Q F K
 have O : ¬ F0 L := fun hf => by have := (hA.lt _ hf).2; omega
 obtain ⟨hb, _⟩ := yG hb K
 have hk := hk.keep0 K
 have f := f.keep0 K
 have c := all9 c fun _ h => h.keep0 K
 have Q := F
 refine za (vs := [(ptr s 0)]) (cs' := [(ptr s 0)]) size155 (zA hN rfl) (zA hN rfl) rfl rfl rfl F (zI rfl) rfl ?_
 intro S F R
 have := R.size
 have hk := hk.keep R (sN hk Q)
 have hM := (hM.keep0 K).keepB Q R
 have hA := (hA.kz K).keepG (Gr.of R) (Dj.one O)
 have f := f.keep R (sN f Q)
 have l := (l.keep0 K).keepX Q R zz
 have c := all9 c fun _ h => h.keepX Q R zz
 have hb := hb.step1 R zx
 refine zD (zA hN rfl) (zB ?_)
 refine H _ _ (zF fun _ H => zF fun _ O => zH (zG (zA hN rfl) (op_bin (v := .bool false) (zA hN rfl) rfl (by rw [binOp_neq]; rfl) (zB (O _ _ (wp_cond_false (zA hN rfl) (wp_skip (H _ _ (zF fun _ H => zH (zD rfl (zB (H _ _ (zF fun _ H => ?_)))))))))))))
 refine zF fun _ O => zH (zG (zC hN rfl I) (zG (zC hN rfl J) (op_mkfn (cv := [(ptr L 0)]) ⟨(zA hN rfl), trivial⟩ (zj ok96 (others_ret (q := upQ T) n zx hk hM hA hMo (g := 105) (fs := []) (cs := [(ptr L 0)]) ok105 (fun j hj S E => com1 (F.keep0 (zQ E)) (f.keep0 (zQ E)) (l.keep0 (zQ E)) (((hA.2.1 j hj).2.2.1.keep0 (zQ E)).rdw.mono (Nat.zero_le _) (Nat.le_refl _)) a.1 (hMo.2 _ (getD_mem hj)).2.1)) ⟨(zA hN rfl), ⟨(zA hN rfl), ⟨(zA hN rfl), trivial⟩⟩⟩ ?_))))
 rintro W X ⟨V, U⟩
 have V := zQ V
 obtain ⟨hb, _⟩ := yG hb V
 have hk := hk.keep0 V
 have hM := hM.keep0 V
 have hA := hA.kz V
 have f := f.keep0 V
 have l := l.keep0 V
 have p := ((p.keep0 K).keepX Q R zz).keep0 V
 have c := all9 c fun _ h => h.keep0 V
 have o := ((o.keep0 K).keepX Q R zz).keep0 V
 have F := F.keep0 V
 have U := U.mono (base' := w.heap.size) zx
 refine op_len_rd Try.underlying35 (zA hN rfl) U.rdw (zG rfl (zB (O _ _ (wp_block (loop_m (fun mz_ az_ w' => ∃ (i : Nat) (r : Value), mz_ = (othersL M n (upQ T)).length - i ∧ (Sl az_ 0 (ptr k 0)) ∧ (Sl az_ 1 (.int .i64 n)) ∧ (Sl az_ 4 (.slice none 0 0)) ∧ (Sl az_ 5 (.int .i64 0)) ∧ (Sl az_ 6 (ptr L 0)) ∧ (Sl az_ 24 W) ∧ (Sl az_ 25 (.int .i64 (((othersL M n (upQ T)).length : Nat) : Int))) ∧ (Sl az_ 26 (.int .i64 ((i : Nat) : Int))) ∧ (Sl az_ 8 r) ∧ (i ≤ (othersL M n (upQ T)).length) ∧ ((((othersL M n (upQ T)).take i).filter (hitB M T)).length ≤ i) ∧ (DJ W r) ∧ (Gr w w' (fun y => F0 y ∨ y = m)) ∧ (X.heap.size ≤ w'.heap.size) ∧ (Bx w' k 121 [(Value.map (some m))]) ∧ (MapC (.int .i64) pv w' m (esOf M C)) ∧ (Bx w' s 164 [A, (.int .u64 T.stamp), z, u, (.bool T.doomed)]) ∧ (Own w' base 46 1 A T.label.length (T.label.map u16v)) ∧ (Own w' base 169 2 z t.length (t.flatMap cellsRd)) ∧ (∀ K ∈ (t.map rdL), Own w' base 46 1 K.1 K.2.length (K.2.map u16v)) ∧ (Own w' base 9 1 u T.writes.length (T.writes.map sv)) ∧ (Bx w' L 155 [(ptr s 0)]) ∧ (Own w' w.heap.size 3 1 W (othersL M n (upQ T)).length ((othersL M n (upQ T)).map (Value.int .i64))) ∧ (LkAll w' base (doomL M T ((othersL M n (upQ T)).take i)) C F0) ∧ (Own w' w.heap.size 3 1 r (((othersL M n (upQ T)).take i).filter (hitB M T)).length ((((othersL M n (upQ T)).take i).filter (hitB M T)).map (Value.int .i64)))) _ hN hd ⟨0, (.slice none 0 0), rfl, (zL hN rfl I), (zL hN rfl J), (zU hN rfl), (zU hN rfl), (zU hN rfl), (zU hN rfl), (zU hN rfl), (zU hN rfl), (zU hN rfl), (Nat.zero_le _), (by simp), (Dj.nil _), hb, (Nat.le_refl _), hk, hM, f, l, p, c, o, F, U, (by rw [List.take_zero, doomL_nil]; exact hA), (Own.nil _ _ _ _)⟩ ?_)))))
 rintro _ ab ad u X ⟨i, r, rfl, J, V, aa, Z, A, R, Y, I, Q, hi, hfl, djr, hb, ac, hk, hM, f, l, p, c, o, F, U, hA, z⟩
 have := hb.size
 refine zF fun _ O => zH (op_lss (zC u rfl I) (zC u rfl Y) (fun ab => ?_) (fun ab => ?_))
 ·
  refine zB (O _ _ (zF fun _ O => wp_cond_true (zA u rfl) (wp_skip (O _ _ (zF fun _ O => wp_block (zF fun _ J2 => zH (zh slt35 (zC u rfl R) U.rdw (zC u rfl I) zx zx ?_)))))))
  intro ae ad ac af ab
  refine zN (v := (Value.int .i64 ((othersL M n (upQ T)).getD i 0))) one3 (zA u rfl) (by have := ab 0 (.int .i64 ((othersL M n (upQ T)).getD i 0)) zz (el_i64 (i := i) zx zx); simpa using this) (zD (zA u rfl) (zB (J2 _ _ (zF fun _ J2 => zH ?_))))
  have hxo := others_mem (getD_mem (d := 0) (show i < (othersL M n (upQ T)).length by omega))
  have ab : (othersL M n (upQ T)).getD i 0 ∈ (doomL M T ((othersL M n (upQ T)).take i)).map Prod.fst := by rw [doomL_keys]; exact hxo.1
  obtain ⟨T9, ac⟩ := mget_key ab
  obtain ⟨j9, p9, ao, am, an, D9, ad, ap, ag, ai, al, aq, ab, ak, ah, ae, af, aj⟩ := LkAll.key hA ac
  rw [doomL_esOf b] at al
  have b := doom_parts ac
  have ac : TOk T9 := ⟨by rw [b.2.1]; exact (txAt_ok hMo hxo.1).1, by rw [b.1]; exact (txAt_ok hMo hxo.1).2⟩
  have ap := LkAll.ne hA (by rw [doomL_len]; exact x) ad (doom_ne B x ag hxo.2.1) G ai
  have x : F0 p9 := (hA.2.2.2 p9).2 ⟨j9, ad, by rw [ai]; exact .inl rfl⟩
  refine zG (zC u rfl J) (op_nil (zA u rfl) (zM fld121_0 (zA u rfl) (zN one119 (zA u rfl) (hk.cell rfl) (zG (zA u rfl) (op_look_hit (k := ((othersL M n (upQ T)).getD i 0)) (v := p9) Try.underlying119 (Go.Gx.key_int Try.underlying3) zero155 (zA u rfl) (zA u rfl) hM al (op_alloc (cs := [(Value.pointer none)]) zero155 rfl ?_))))))
  intro aq al ap ar G B
  have ap : ¬ F0 al := fun hf => by have := (hA.lt _ hf).2; omega
  obtain ⟨hb, _⟩ := yG hb B
  have hk := hk.keep0 B
  have f := f.keep0 B
  have c := all9 c fun _ h => h.keep0 B
  have ab := ab.keep0 B
  have ae := all9 ae fun _ h => h.keep0 B
  have aq := G
  refine za (vs := [(ptr p9 0)]) (cs' := [(ptr p9 0)]) size155 (zA u rfl) (zA u rfl) rfl rfl rfl G (zI rfl) rfl ?_
  intro au G ar
  have := ar.size
  have hk := hk.keep ar (sN hk aq)
  have f := f.keep ar (sN f aq)
  have l := (l.keep0 B).keepX aq ar zz
  have p := (p.keep0 B).keepX aq ar zz
  have c := all9 c fun _ h => h.keepX aq ar zz
  have o := (o.keep0 B).keepX aq ar zz
  have F := (F.keep0 B).keep ar sB
  have hA := (hA.kz B).keepG (Gr.of ar) (Dj.one ap)
  have ab := ab.keep ar (sN ab aq)
  have ak := (ak.keep0 B).keepX aq ar zz
  have ah := (ah.keep0 B).keepX aq ar zz
  have ae := all9 ae fun _ h => h.keepX aq ar zz
  have af := (af.keep0 B).keepX aq ar zz
  have hb := hb.step1 ar zx
  refine zB ?_
  refine J2 _ _ (zF fun _ J2 => zH (zN one155 (zC u rfl A) (F.cell rfl) (op_nil (zA u rfl) (zM fld164_3 (zA u rfl) (op_mkfn (cv := [(ptr al 0), (ptr L 0)]) ⟨(zA u rfl), ⟨(zC u rfl A), trivial⟩⟩ (ze (vs := [(ptr s 3), (.func (.func 108) #[] #[(ptr al 0), (ptr L 0)])]) ok107 ⟨(zA u rfl), ⟨(zA u rfl), trivial⟩⟩ (hasS zx f l p c o ⟨a.1, TOk.rd a D⟩ (p9 := (fun y => covB (D9.map rOf) y T.label)) (g := 108) (fs := []) (cs := [(ptr al 0), (ptr L 0)]) ok108 (fun i hi S E => com2 (by have := E.size; omega) (ab.keep0 (zQ E)) (ak.keep0 (zQ E)) (ah.keep0 (zQ E)) (fun K ab => (ae K ab).keep0 (zQ E)) (af.keep0 (zQ E)) ⟨ac.1, TOk.rd ac aj⟩ (G.keep0 (zQ E)) (F.keep0 (zQ E)) (f.keep0 (zQ E)) (l.keep0 (zQ E)) a.1)) ?_))))))
  rintro _ s ⟨a, rfl⟩
  have a := zQ a
  obtain ⟨hb, _⟩ := yG hb a
  have hk := hk.keep0 a
  have hM := ((hM.keep0 B).keepB aq ar).keep0 a
  have f := f.keep0 a
  have l := l.keep0 a
  have p := p.keep0 a
  have c := all9 c fun _ h => h.keep0 a
  have o := o.keep0 a
  have F := F.keep0 a
  have U := ((U.keep0 B).keepX aq ar zz).keep0 a
  have hA := hA.kz a
  have z := ((z.keep0 B).keepX aq ar zz).keep0 a
  have ab := ab.keep0 a
  have G := G.keep0 a
  rcases Bool.eq_false_or_eq_true ((T.writes.any (fun y => covB (D9.map rOf) y T.label))) with a | a
  ·
   rw [a]
   refine zB (J2 _ _ (wp_cond_true (zA u rfl) (zF fun _ J2 => zH ?_)))
   have hhit : hitB M T ((othersL M n (upQ T)).getD i 0) = true := by rw [← hit_parts b.1 aj]; exact a
   have hA_b := hA
   refine zN one155 (zA u rfl) (G.cell rfl) (op_nil (zA u rfl) (zM fld164_4 (zA u rfl) ?_))
   have s := ab
   refine za (vs := [(.bool true)]) (cs' := [ao, (.int .u64 T9.stamp), am, an, (.bool true)]) size4 (zA u rfl) rfl rfl rfl rfl ab (zI rfl) rfl ?_
   intro D ab B
   have := B.size
   have hk := hk.keep B (sN hk s)
   have c : ∀ K ∈ (t.map rdL), Own D base 46 1 K.1 K.2.length (K.2.map u16v) := fun K ab => (c K ab).keepX s B zz
   have F := F.keep B (sN F s)
   have hb := hb.stepB B (.inl x)
   refine zB (J2 _ _ (zH ?_))
   have hA := LkAll.doom hA_b ad ag ai B ab
   refine zG (zC u rfl Q) (zG (zA u rfl) (op_bslice (e := 3) (pv := [(0, (.int .i64 ((othersL M n (upQ T)).getD i 0)))]) (cs := [(.int .i64 ((othersL M n (upQ T)).getD i 0))]) ⟨rfl, (zA u rfl), trivial⟩ zy ?_))
   intro G L D K x t
   obtain ⟨hb, _⟩ := yG hb t
   have hk := hk.keep0 t
   have c := all9 c fun _ h => h.keep0 t
   have U := (U.keepX s B zz).keep0 t
   have z := (z.keepX s B zz).keep0 t
   have ab := ab.keep0 t
   have hA := hA.kz t
   have D := z
   refine op_append slt35 (zA u rfl) D (zA u rfl) (Src.ofRd Try.underlying35 zz (RdC.ofBx (sz := 1) (n := 1) x rfl zz) (by simp [Value.oneCell', u8v])) (by unfold maxLen; omega) zx hb.size ?_
   intro K L G x S
   have ab : DJ W K := DJ.step S (fun k hk => (U.lt k hk).2) djr
   have := x.size
   have hk := hk.keepO D x zz
   have hM := ((hM.keepB s B).keep0 t).keepO D x
   have f := ((f.keep B sB).keep0 t).keepO D x zz
   have l := ((l.keepX s B zz).keep0 t).keepT D x zz
   have p := ((p.keepX s B zz).keep0 t).keepT D x zz
   have c := all9 c fun _ h => h.keepT D x zz
   have o := ((o.keepX s B zz).keep0 t).keepT D x zz
   have F := (F.keep0 t).keepO D x zz
   have U := U.keepD x djr
   have hA := hA.keepG (Gr.of x) (hA.notOwn D zz zz zz zz).symm
   have hb := hb.stepO D x zx
   have G : Own L w.heap.size 3 1 K ((((othersL M n (upQ T)).take i).filter (hitB M T)).length + 1) ((((((othersL M n (upQ T)).take i).filter (hitB M T)) ++ [((othersL M n (upQ T)).getD i 0)])).map (Value.int .i64)) := by simpa [u8v, u16v, sv] using G
   refine zD (zA u rfl) (zB (O _ _ (zH (op_add (zC u rfl I) rfl (add64 zx) (zG (zA u rfl) (zB ?_))))))
   -- round 27T 40T
   skip
   exact zg _ u X ⟨(i + 1), K, rfl, (zL u rfl J), (zL u rfl V), (zL u rfl aa), (zL u rfl Z), (zL u rfl A), (zL u rfl R), (zL u rfl Y), (zU u rfl).trans (congrArg (Value.int .i64) zx), (zU u rfl), zx, (filt_le zx), ab, hb, zx, hk, hM, f, l, p, c, o, F, U, (by rw [doom_t zx hhit hnd (by rw [doomL_len] at ad; exact ad) ag]; exact hA), (G.cast (by rw [filtT (d := 0) zx hhit]; simp) (by rw [filtT (d := 0) zx hhit]))⟩ zx
  rw [a]
  refine zB (J2 _ _ (wp_cond_false (zA u rfl) (wp_skip (O _ _ (zH (op_add (zC u rfl I) rfl (add64 zx) (zG (zA u rfl) (zB ?_))))))))
  -- round 27T 40F
  have hhit : hitB M T ((othersL M n (upQ T)).getD i 0) = false := by rw [← hit_parts b.1 aj]; exact a
  exact zg _ u X ⟨(i + 1), r, rfl, (zL u rfl J), (zL u rfl V), (zL u rfl aa), (zL u rfl Z), (zL u rfl A), (zL u rfl R), (zL u rfl Y), (zU u rfl).trans (congrArg (Value.int .i64) zx), (zL u rfl Q), zx, (filt_le zx), djr, hb, zx, hk, hM, f, l, p, c, o, F, U, (by rw [doom_f zx hhit]; exact hA), (z.cast (by rw [filtF (d := 0) zx hhit]) (by rw [filtF (d := 0) zx hhit]))⟩ zx
 refine zB (O _ _ (zF fun _ O => wp_cond_false (zA u rfl) (wp_exit (then_exit (then_exit (blk_hit (H _ _ (zF fun _ H => zH (zG (zC u rfl J) (op_nil (zA u rfl) (zM fld121_0 (zA u rfl) (zN one119 (zA u rfl) (hk.cell rfl) (zG (zC u rfl V) ?_)))))))))))))
 have hM_old := hM
 refine op_mapdel0 (k := n) Try.underlying119 (Go.Gx.key_int Try.underlying3) (zA u rfl) (zA u rfl) hM ?_
 intro c b a
 have := a.size
 have hA := hA.keepG (Gr.of a) (Dj.one (hA.notMap hM_old))
 have z := z.keepM hM_old a
 have hb := hb.stepB a (.inr rfl)
 refine zB (H _ _ (zF fun _ H => zH (zG (zC u rfl Q) (zD (zA u rfl) (zD rfl (zB (H _ _ (wp_ret (ret2 rfl X (zA u rfl) (zA u rfl) ⟨_, rfl, ?_⟩)))))))))
 rw [List.take_of_length_le zx] at z hA
 exact ⟨hb, _, rfl, z, b, hA⟩

theorem Com_miss {n : Int} {k m : Nat} {es : List (Int × Nat)} {w : World} (hk : Bx w k 121 [.map (some m)]) (hM : MapC (.int .i64) pv w m es) (hg : mget es n = none)  : Ret Try.prog 60 #[(ptr k 0), (.int .i64 n)] w (fun v' w' => Below w.heap.size w w' ∧ v' = .tuple #[.slice none 0 0, .int .i64 18]) := by
 have hb := Below.refl w.heap.size w
 refine enter (N := 55) Try.func60 rfl rfl (by simp) fun a hN hd hA => ?_
 have b : a.tmps.getD 0 undef = (ptr k 0) := hA 0 (by simp)
 have c : a.tmps.getD 1 undef = (.int .i64 n) := hA 1 (by simp)
 clear hA
 refine zF fun _ a => zH (zD rfl (zD rfl ?_))
 refine zB (a _ _ (zF fun _ a => zH (zG (zC hN rfl b) (zG (zC hN rfl c) (ze (vs := [(ptr k 0), (.int .i64 n)]) ok95 ⟨(zA hN rfl), ⟨(zA hN rfl), trivial⟩⟩ (Ret.flip (at_miss n hk hM hg)) ?_)))))
 rintro _ _ ⟨rfl, rfl⟩
 refine zG (zA hN rfl) (zW (zA hN rfl) rfl (zW (zA hN rfl) rfl (op_alloc (cs := [(Value.pointer none)]) zero155 rfl ?_)))
 intro e f g d b c
 obtain ⟨hb, _⟩ := yE hb c
 refine za (vs := [(Value.pointer none)]) (cs' := [(Value.pointer none)]) size155 (zA hN rfl) (zA hN rfl) rfl rfl rfl b (zI rfl) rfl ?_
 intro d b c
 have := c.size
 have hb := below_step1 hb c hb.size zx
 refine zD (zA hN rfl) (zB (a _ _ (zF fun _ a => zF fun _ b => zH ?_)))
 refine zG (zA hN rfl) (op_bin (v := .bool true) (zA hN rfl) rfl (by rw [binOp_neq]; rfl) (zB (b _ _ (wp_cond_true (zA hN rfl) (zF fun _ b => zH (zG (zA hN rfl) (zD rfl (zD (zA hN rfl) (zB (b _ _ (wp_ret (zO ( (ret2 rfl hd (zA hN rfl) (zA hN rfl) ⟨_, rfl, ?_⟩))))))))))))))
 exact ⟨hb, rfl⟩

theorem Com_nomap {n : Int} {k : Nat} {w : World} (hk : Bx w k 121 [.map none])  : Ret Try.prog 60 #[(ptr k 0), (.int .i64 n)] w (fun v' w' => Below w.heap.size w w' ∧ v' = .tuple #[.slice none 0 0, .int .i64 18]) := by
 have hb := Below.refl w.heap.size w
 refine enter (N := 55) Try.func60 rfl rfl (by simp) fun a hN hd hA => ?_
 have b : a.tmps.getD 0 undef = (ptr k 0) := hA 0 (by simp)
 have c : a.tmps.getD 1 undef = (.int .i64 n) := hA 1 (by simp)
 clear hA
 refine zF fun _ a => zH (zD rfl (zD rfl ?_))
 refine zB (a _ _ (zF fun _ a => zH (zG (zC hN rfl b) (zG (zC hN rfl c) (ze (vs := [(ptr k 0), (.int .i64 n)]) ok95 ⟨(zA hN rfl), ⟨(zA hN rfl), trivial⟩⟩ (Ret.flip (at_nomap n hk)) ?_)))))
 rintro _ _ ⟨rfl, rfl⟩
 refine zG (zA hN rfl) (zW (zA hN rfl) rfl (zW (zA hN rfl) rfl (op_alloc (cs := [(Value.pointer none)]) zero155 rfl ?_)))
 intro g e f d b c
 obtain ⟨hb, _⟩ := yE hb c
 refine za (vs := [(Value.pointer none)]) (cs' := [(Value.pointer none)]) size155 (zA hN rfl) (zA hN rfl) rfl rfl rfl b (zI rfl) rfl ?_
 intro d b c
 have := c.size
 have hb := below_step1 hb c hb.size zx
 refine zD (zA hN rfl) (zB (a _ _ (zF fun _ a => zF fun _ b => zH ?_)))
 refine zG (zA hN rfl) (op_bin (v := .bool true) (zA hN rfl) rfl (by rw [binOp_neq]; rfl) (zB (b _ _ (wp_cond_true (zA hN rfl) (zF fun _ b => zH (zG (zA hN rfl) (zD rfl (zD (zA hN rfl) (zB (b _ _ (wp_ret (zO ( (ret2 rfl hd (zA hN rfl) (zA hN rfl) ⟨_, rfl, ?_⟩))))))))))))))
 exact ⟨hb, rfl⟩

end Go.Proofs.Ytmhdbphpmgjpcaa

namespace Go.Proofs.Ytmhdbphpmgjpcaa
open Go.Gx Go.RowKit
/-! plainly -/
def MSm (M : TM) : Prop := ∀ a ∈ M, a.2.reads.length ≤ 50000 ∧ a.2.writes.length ≤ 50000
def newT (l : List UInt16) (s : Int) : TX := ⟨l, s, [], [], false⟩
def enterE (M : TM) (n : Int) : Int := if (mget M n).isSome = true then 18 else 0
def enterM (M : TM) (n : Int) (l : List UInt16) (s : Int) : TM := if (mget M n).isSome = true then M else mput M n (newT l s)
def moveT (t : TX) (l : List UInt16) (s : Int) : TX := { t with label := l, stamp := s }
def moveE (M : TM) (n : Int) : Int := match mget M n with | none => 18 | some t => if 0 < t.writes.length then 16 else 0
def moveM (M : TM) (n : Int) (l : List UInt16) (s : Int) : TM := match mget M n with | none => M | some t => if 0 < t.writes.length then M else mput M n (moveT t l s)
def leaveE (M : TM) (n : Int) : Int := if (mget M n).isSome = true then 0 else 18
def askE (M : TM) (n : Int) : Int := if (mget M n).isSome = true then 0 else 18
def othB (M : TM) (n : Int) (q : List UInt16 → Bool) (i : Int) : Bool := decide (i ≠ n) && q (txAt M i).label
theorem any_others {M : TM} {n : Int} {q : List UInt16 → Bool} {p : Int → Bool} : (othersL M n q).any p = M.any fun a => othB M n q a.1 && p a.1 := by
  rw [Bool.eq_iff_iff, List.any_eq_true, List.any_eq_true]
  constructor
  · rintro ⟨i, hi, hp⟩
    have h1 := List.mem_filter.1 hi
    obtain ⟨a, ha, rfl⟩ := List.mem_map.1 (sortK_mem.1 h1.1)
    exact ⟨a, ha, by rw [hp, Bool.and_true]; exact h1.2⟩
  · rintro ⟨a, ha, hp⟩
    rw [Bool.and_eq_true] at hp
    exact ⟨a.1, List.mem_filter.2 ⟨sortK_mem.2 (List.mem_map.2 ⟨a, ha, rfl⟩), hp.1⟩, hp.2⟩
def ansO (M : TM) (n : Int) (T : TX) (Rs : List (List UInt8)) (x : List UInt8) : Int :=
  if (M.any fun a => othB M n (sameQ T) a.1 && dieB M T Rs x a.1) = true then 3 else if (M.any fun a => othB M n (sameQ T) a.1 && stB M T Rs x a.1) = true then 2 else 1
theorem askO_eq {M : TM} {n : Int} {T : TX} {Rs : List (List UInt8)} {x : List UInt8} : askO M n T Rs x = ansO M n T Rs x := by
  unfold askO ansO outW; rw [any_others, any_others]
def askV (M : TM) (n : Int) (Rs : List (List UInt8)) (x : List UInt8) : Int := match mget M n with | none => 0 | some t => ansO M n t Rs x
def askM (M : TM) (n : Int) (Rs : List (List UInt8)) (x : List UInt8) : TM := match mget M n with | none => M | some t => mput M n (askT t Rs x (ansO M n t Rs x))
def comL (M : TM) (n : Int) : List Int := match mget M n with | none => [] | some t => (othersL M n (upQ t)).filter (hitB M t)
def comM (M : TM) (n : Int) : TM := match mget M n with | none => M | some t => mdel (doomL M t (othersL M n (upQ t))) n
section
variable {w w' : World} {base k p lo : Nat} {M : TM} {F : Nat → Prop} {n s : Int} {l : List UInt16} {lv : Value} {C : List TC}
theorem es_none (h : C.length = M.length) (hg : mget M n = none) : mget (esOf M C) n = none := by
  rw [mget_none] at *; rw [esOf_keys h]; exact hg
theorem es_some {t : TX} (h : C.length = M.length) (hg : mget M n = some t) : ∃ q, mget (esOf M C) n = some q := by
  cases hq : mget (esOf M C) n with
  | some q => exact ⟨q, rfl⟩
  | none => rw [mget_none, esOf_keys h, ← mget_none, hg] at hq; cases hq
theorem es_nil (h : C.length = M.length) (he : esOf M C = []) : M = [] := by
  have := congrArg List.length he
  rw [esOf_len h] at this
  exact List.length_eq_zero_iff.1 this
theorem LkAll.more {q : Nat} {nv : Value} {F0 : Nat → Prop} {t0 : Nat} (hA : LkAll w base M C F0) (E : Gr w w' (fun y => y = t0)) (h0 : ¬ F0 t0) (hb : base ≤ w.heap.size) (hq : w.heap.size ≤ q) (hx : Bx w' q 164 [nv, .int .u64 s, .slice none 0 0, .slice none 0 0, .bool false]) (hL : Own w' w.heap.size 46 1 nv l.length (l.map u16v)) (hg : mget M n = none) :
    ∃ C' F', LkAll w' base (mput M n (newT l s)) C' F' ∧ esOf (mput M n (newT l s)) C' = mput (esOf M C) n q ∧ (∀ x, F' x → F0 x ∨ w.heap.size ≤ x) := by
  have hA' := hA.keepG E (fun x hx hy => h0 (hy ▸ hx))
  have hlk : mlook M n = none := by
    cases hq : mlook M n with
    | none => rfl
    | some r => unfold mget at hg; rw [hq] at hg; cases hg
  have hput : mput M n (newT l s) = M ++ [(n, newT l s)] := by unfold mput; rw [hlk]
  have hput2 : mput (esOf M C) n q = esOf M C ++ [(n, q)] := by unfold mput; rw [esOf_look hA.1, hlk]; rfl
  have hT : TxAt w' base (newT l s) ⟨q, nv, .slice none 0 0, .slice none 0 0, []⟩ := ⟨Nat.le_trans hb hq, hx, hL.mono hb, Own.nil _ _ _ _, fun _ h => (by cases h), Own.nil _ _ _ _, rfl⟩
  have hnew : ∀ x, PartT ⟨q, nv, .slice none 0 0, .slice none 0 0, []⟩ x → w.heap.size ≤ x := fun x hx => by
    rcases hx with rfl | hx | hx | hx | ⟨r, hr, _⟩
    · exact hq
    · exact (hL.lt x hx).1
    · cases hx
    · cases hx
    · cases hr
  refine ⟨C ++ [⟨q, nv, .slice none 0 0, .slice none 0 0, []⟩], (fun x => F0 x ∨ PartT ⟨q, nv, .slice none 0 0, .slice none 0 0, []⟩ x), by rw [hput]; exact hA'.snoc hT (fun x hx hy => by have := (hA.lt x hx).2; have := hnew x hy; omega), by rw [hput, hput2, esOf_snoc hA.1], fun x hx => hx.imp id (hnew x)⟩
theorem EnterR (hb : base ≤ w.heap.size) (hl : RdC w 0 lo 1 lv l.length (l.map u16v)) (hlo : lo ≤ base) (hl8 : l.length ≤ 8) (h : LocksR w base k M F) :
    Ret Try.prog 54 #[ptr k 0, .int .i64 n, lv, .int .u64 s] w (fun v' w' => Gr w w' F ∧ v' = .int .i64 (enterE M n) ∧ ∃ F', LocksR w' base k (enterM M n l s) F' ∧ NewF w.heap.size F F') := by
  have h' := h
  obtain ⟨mv, C, F0, hk, hx, hM, hA, hF⟩ := h'
  have hl2 : RdC w 0 w.heap.size 1 lv l.length (l.map u16v) := hl.mono (Nat.zero_le _) (by omega)
  rcases hM with ⟨rfl, he⟩ | ⟨m, rfl, hm, hM⟩
  · have hM0 := es_nil hA.1 he
    subst hM0
    refine (Enter_nomap hx hl (by omega) (by omega)).mono fun v' w' q => ?_
    obtain ⟨E, rfl, m, q, nv, hm, hq, hx', hb', hL', hM'⟩ := q
    have E1 : Gr w w' (fun y => y = k) := (Gr.of E).mono fun y _ hy => (Option.some.inj hy).symm
    obtain ⟨C', F', hA', hes, hsub⟩ := LkAll.more (n := n) hA E1 (hA.notBx hx (by decide) (by decide) (by decide) (by decide)) hb hq hb' hL' rfl
    refine ⟨E1.mono fun y _ hy => (hF y).2 (.inl hy), rfl, _, ⟨.map (some m), C', F', hk, hx', .inr ⟨m, rfl, by omega, by rw [show enterM [] n l s = mput [] n (newT l s) from rfl, hes, he]; exact hM'⟩, hA', fun x => Iff.rfl⟩, fun y hy => ?_⟩
    rcases hy with rfl | hy | hy
    · exact .inl ((hF y).2 (.inl rfl))
    · injection hy with hy; injection hy with hy; subst hy; exact .inr hm
    · exact (hsub y hy).imp (fun q => (hF y).2 (.inr (.inr q))) id
  · cases hg : mget M n with
    | some t =>
      obtain ⟨q, hq⟩ := es_some hA.1 hg
      refine (Enter_hit (l := l) hx hM hq).mono fun v' w' q => ?_
      obtain ⟨E, rfl⟩ := q
      refine ⟨Gr.ofBelow E F, by unfold enterE; rw [hg]; rfl, F, ?_, NewF.refl _ _⟩
      have : enterM M n l s = M := by unfold enterM; rw [hg]; rfl
      rw [this]; exact h.keepG (Gr.ofBelow E NoB) fun _ _ hh => hh
    | none =>
      refine (Enter_miss hx hM (es_none hA.1 hg) hl2 (by omega)).mono fun v' w' q => ?_
      obtain ⟨E, rfl, q, nv, hq, hb', hL', hM'⟩ := q
      have E1 : Gr w w' (fun y => y = m) := (Gr.of E).mono fun y _ hy => (Option.some.inj hy).symm
      obtain ⟨C', F', hA', hes, hsub⟩ := LkAll.more (n := n) hA E1 (hA.notMap hM) hb hq hb' hL' hg
      have hem : enterM M n l s = mput M n (newT l s) := by unfold enterM; rw [hg]; rfl
      refine ⟨E1.mono fun y _ hy => (hF y).2 (.inr (.inl (by rw [hy]))), by unfold enterE; rw [hg]; rfl, _, ⟨.map (some m), C', F', hk, hx.keepG E1 (hx.notMap hM), .inr ⟨m, rfl, hm, by rw [hem, hes]; exact hM'⟩, by rw [hem]; exact hA', fun x => Iff.rfl⟩, fun y hy => ?_⟩
      rcases hy with rfl | hy | hy
      · exact .inl ((hF y).2 (.inl rfl))
      · exact .inl ((hF y).2 (.inr (.inl hy)))
      · exact (hsub y hy).imp (fun q => (hF y).2 (.inr (.inr q))) id
theorem lk_same (h : LocksR w base k M F) (E : Below w.heap.size w w') : Gr w w' F ∧ ∃ F', LocksR w' base k M F' ∧ NewF w.heap.size F F' := ⟨Gr.ofBelow E F, F, h.keepG (Gr.ofBelow E NoB) fun _ _ hh => hh, NewF.refl _ _⟩
theorem MoveR (hb : base ≤ w.heap.size) (hl2 : RdC w 0 w.heap.size 1 lv l.length (l.map u16v)) (hl8 : l.length ≤ 8) (h : LocksR w base k M F) :
    Ret Try.prog 59 #[ptr k 0, .int .i64 n, lv, .int .u64 s] w (fun v' w' => Gr w w' F ∧ v' = .int .i64 (moveE M n) ∧ ∃ F', LocksR w' base k (moveM M n l s) F' ∧ NewF w.heap.size F F') := by
  have h' := h
  cases hg : mget M n with
  | none =>
    have e1 : moveE M n = 18 := by unfold moveE; rw [hg]
    have e2 : moveM M n l s = M := by unfold moveM; rw [hg]
    rw [e1, e2]
    obtain ⟨mv, C, F0, hk, hx, hM, hA, hF⟩ := h'
    rcases hM with ⟨rfl, he⟩ | ⟨m, rfl, hm, hM⟩
    · exact (Move_nomap hx).mono fun v' w' q => ⟨(lk_same h q.1).1, q.2, (lk_same h q.1).2⟩
    · exact (Move_miss hx hM (es_none hA.1 hg)).mono fun v' w' q => ⟨(lk_same h q.1).1, q.2, (lk_same h q.1).2⟩
  | some t =>
    obtain ⟨m, C, F0, p, FT, hx, hM, hA, hes, hT, hsub, close⟩ := LocksR.hit h hg
    obtain ⟨la, rv, wv, D, hp, hb0, hL, hR, hD, hW, hDe, hFT⟩ := hT.parts
    refine (Move_hit (D := D) (lab := t.label) hx hM hes hb hb0 hW hl2 (by omega)).mono fun v' w' q => ?_
    obtain ⟨E, ⟨hw, rfl, rfl⟩ | ⟨hw, rfl, nv, hb', hL'⟩⟩ := q
    · have e1 : moveE M n = 16 := by unfold moveE; rw [hg]; exact if_pos hw
      have e2 : moveM M n l s = M := by unfold moveM; rw [hg]; exact if_pos hw
      rw [e1, e2]
      exact ⟨Gr.refl _ _, rfl, F, h, NewF.refl _ _⟩
    · have e1 : moveE M n = 0 := by unfold moveE; rw [hg]; exact if_neg (by omega)
      have e2 : moveM M n l s = mput M n (moveT t l s) := by unfold moveM; rw [hg]; exact if_neg (by omega)
      have E' : Gr w w' (fun y => some p = some y) := Gr.of E
      have ap : ∀ {e sz n2 : Nat} {v : Value} {cs : List Value}, Own w base e sz v n2 cs → e ≠ 164 → Own w' base e sz v n2 cs := fun O he => O.keepG E' fun y hy hq => by
        injection hq with hq; subst hq; exact O.neB hb0 (fun q => he q.symm) hy
      have hT' : TxR w' base p (moveT t l s) (fun x => x = p ∨ Bl nv x ∨ Bl rv x ∨ Bl wv x ∨ ∃ r ∈ D, Bl r.la x) := TxR.mk' (T := moveT t l s) hp hb' (hL'.mono hb) (ap hR (by decide)) (fun x9 hx9 => ap (hD x9 hx9) (by decide)) (ap hW (by decide)) hDe
      obtain ⟨E2, F2, hK, hN⟩ := close w' _ _ (E'.mono fun y _ hy => (hFT y).2 (.inl (Option.some.inj hy).symm)) hT' (fun y hy => by
        rcases hy with hy | hy | hy | hy | hy
        · exact .inl ((hFT y).2 (.inl hy))
        · exact .inr (hL'.lt y hy).1
        · exact .inl ((hFT y).2 (.inr (.inr (.inl hy))))
        · exact .inl ((hFT y).2 (.inr (.inr (.inr (.inl hy)))))
        · exact .inl ((hFT y).2 (.inr (.inr (.inr (.inr hy))))))
      rw [e1, e2]
      exact ⟨E2, rfl, F2, hK, hN⟩
theorem DoomedR (h : LocksR w base k M F) : Ret Try.prog 62 #[ptr k 0, .int .i64 n] w (fun v' w' => Below w.heap.size w w' ∧ v' = .bool (txAt M n).doomed) := by
  cases hg : mget M n with
  | none =>
    have e : (txAt M n).doomed = false := by unfold txAt; rw [hg]; rfl
    rw [e]
    obtain ⟨mv, C, F0, hk, hx, hM, hA, hF⟩ := h
    rcases hM with ⟨rfl, he⟩ | ⟨m, rfl, hm, hM⟩
    · exact Doomed_nomap hx
    · exact Doomed_miss hx hM (es_none hA.1 hg)
  | some t =>
    have e : (txAt M n).doomed = t.doomed := by unfold txAt; rw [hg]; rfl
    rw [e]
    obtain ⟨m, C, F0, p, FT, hx, hM, hA, hes, hT, hsub, close⟩ := LocksR.hit h hg
    obtain ⟨la, rv, wv, D, hp, hb0, hL, hR, hD, hW, hDe, hFT⟩ := hT.parts
    exact Doomed_hit (base := base) (D := D) (lab := t.label) (Wr := t.writes) hx hM hes hb0
theorem WroteR (hb : base ≤ w.heap.size) (hn : MSm M) (h : LocksR w base k M F) : Ret Try.prog 70 #[ptr k 0, .int .i64 n] w (fun v' w' => Below w.heap.size w w' ∧ Own w' w.heap.size 9 1 v' (txAt M n).writes.length ((txAt M n).writes.map sv)) := by
  cases hg : mget M n with
  | none =>
    have e : (txAt M n).writes = [] := by unfold txAt; rw [hg]; rfl
    rw [e]
    obtain ⟨mv, C, F0, hk, hx, hM, hA, hF⟩ := h
    rcases hM with ⟨rfl, he⟩ | ⟨m, rfl, hm, hM⟩
    · refine (Wrote_nomap hx).mono fun v' w' q => ?_
      obtain ⟨E, rfl⟩ := q; exact ⟨E, Own.nil _ _ _ _⟩
    · refine (Wrote_miss hx hM (es_none hA.1 hg)).mono fun v' w' q => ?_
      obtain ⟨E, rfl⟩ := q; exact ⟨E, Own.nil _ _ _ _⟩
  | some t =>
    have e : txAt M n = t := by unfold txAt; rw [hg]; rfl
    rw [e]
    obtain ⟨m, C, F0, p, FT, hx, hM, hA, hes, hT, hsub, close⟩ := LocksR.hit h hg
    obtain ⟨la, rv, wv, D, hp, hb0, hL, hR, hD, hW, hDe, hFT⟩ := hT.parts
    exact Wrote_hit (D := D) (lab := t.label) hx hM hes hb hb0 hW (by have h9 := (hn _ (mget_mem hg)).2; simp only at h9; omega)
theorem lk_drop {m : Nat} {F0 : Nat → Prop} (hb : base ≤ w.heap.size) (hk : base ≤ k) (hm : base ≤ m) (hx : Bx w k 121 [.map (some m)]) (hM : MapC (Value.int .i64) pv w m (mdel (esOf M C) n)) (hA : LkAll w base M C F0) : ∃ F', LocksR w base k (mdel M n) F' ∧ ∀ x, F' x → x = k ∨ x = m ∨ F0 x := by
  have hes : mdel (esOf M C) n = match mlook M n with | none => esOf M C | some (j, _) => (esOf M C).eraseIdx j := by
    unfold mdel; rw [esOf_look hA.1]; cases mlook M n <;> rfl
  cases hl : mlook M n with
  | none =>
    rw [hl] at hes
    have hd : mdel M n = M := by unfold mdel; rw [hl]
    rw [hd]
    exact ⟨_, ⟨_, C, F0, hk, hx, .inr ⟨m, rfl, hm, by rw [hes] at hM; exact hM⟩, hA, fun x => Iff.rfl⟩, fun x hx => by
      rcases hx with hx | hx | hx
      · exact .inl hx
      · injection hx with hx; injection hx with hx; exact .inr (.inl hx.symm)
      · exact .inr (.inr hx)⟩
  | some q =>
    obtain ⟨j, t⟩ := q
    rw [hl] at hes
    have hd : mdel M n = M.eraseIdx j := by unfold mdel; rw [hl]
    have hj := (List.getElem?_eq_some_iff.1 (mlook_some hl)).1
    obtain ⟨F2, hA2, hs⟩ := hA.erase hj
    rw [hd]
    exact ⟨_, ⟨_, _, F2, hk, hx, .inr ⟨m, rfl, hm, by rw [esOf_erase hA.1]; rw [hes] at hM; exact hM⟩, hA2, fun x => Iff.rfl⟩, fun x hx => by
      rcases hx with hx | hx | hx
      · exact .inl hx
      · injection hx with hx; injection hx with hx; exact .inr (.inl hx.symm)
      · exact .inr (.inr (hs x hx))⟩
theorem LeaveR (hb : base ≤ w.heap.size) (h : LocksR w base k M F) : Ret Try.prog 57 #[ptr k 0, .int .i64 n] w (fun v' w' => Gr w w' F ∧ v' = .int .i64 (leaveE M n) ∧ ∃ F', LocksR w' base k (mdel M n) F' ∧ NewF w.heap.size F F') := by
  have h' := h
  obtain ⟨mv, C, F0, hk, hx, hM, hA, hF⟩ := h'
  cases hg : mget M n with
  | none =>
    have e1 : leaveE M n = 18 := by unfold leaveE; rw [hg]; rfl
    have e2 : mdel M n = M := by
      unfold mdel
      cases hq : mlook M n with
      | none => rfl
      | some r => unfold mget at hg; rw [hq] at hg; cases hg
    rw [e1, e2]
    rcases hM with ⟨rfl, he⟩ | ⟨m, rfl, hm, hM⟩
    · exact (Leave_nomap hx).mono fun v' w' q => ⟨(lk_same h q.1).1, q.2, (lk_same h q.1).2⟩
    · exact (Leave_miss hx hM (es_none hA.1 hg)).mono fun v' w' q => ⟨(lk_same h q.1).1, q.2, (lk_same h q.1).2⟩
  | some t =>
    have e1 : leaveE M n = 0 := by unfold leaveE; rw [hg]; rfl
    rw [e1]
    obtain ⟨q, hq⟩ := es_some hA.1 hg
    rcases hM with ⟨rfl, he⟩ | ⟨m, rfl, hm, hM⟩
    · rw [he] at hq; cases hq
    · refine (Leave_hit hx hM hq).mono fun v' w' q => ?_
      obtain ⟨E, rfl, hM'⟩ := q
      have E1 : Gr w w' (fun y => y = m) := (Gr.of E).mono fun y _ hy => (Option.some.inj hy).symm
      obtain ⟨F', hK, hs⟩ := lk_drop (k := k) (Nat.le_trans hb E.size) hk hm (hx.keepG E1 (hx.notMap hM)) hM' (hA.keepG E1 fun x hx hy => hA.notMap hM (hy ▸ hx))
      exact ⟨E1.mono fun y _ hy => (hF y).2 (.inr (.inl (by rw [hy]))), rfl, F', hK, fun y hy => .inl ((hF y).2 ((hs y hy).imp id fun q => q.imp (fun q => by rw [q]) id))⟩
theorem AskR {Rs : List (List UInt8)} {rsv : Value} {x : List UInt8} {Lr Br : Nat} (hb : base ≤ w.heap.size) (hMo : MOk M) (hsm : MSm M) (hRl : Rs.length ≤ 1000) (hRs : RdC w Lr Br 1 rsv Rs.length (Rs.map sv)) (hBr : Br ≤ w.heap.size) (hap : ∀ y, F y → y < Lr ∨ Br ≤ y) (h : LocksR w base k M F) :
    Ret Try.prog 55 #[ptr k 0, .int .i64 n, rsv, .string (bs x)] w (fun v' w' => Gr w w' F ∧ v' = .tuple #[.int .i64 (askV M n Rs x), .int .i64 (askE M n)] ∧ ∃ F', LocksR w' base k (askM M n Rs x) F' ∧ NewF w.heap.size F F') := by
  cases hg : mget M n with
  | none =>
    have e1 : askE M n = 18 := by unfold askE; rw [hg]; rfl
    have e2 : askM M n Rs x = M := by unfold askM; rw [hg]
    have e3 : askV M n Rs x = 0 := by unfold askV; rw [hg]
    rw [e1, e2, e3]
    have h' := h
    obtain ⟨mv, C, F0, hk, hx, hM, hA, hF⟩ := h'
    rcases hM with ⟨rfl, he⟩ | ⟨m, rfl, hm, hM⟩
    · exact (Ask_nomap hx).mono fun v' w' q => ⟨(lk_same h q.1).1, q.2, (lk_same h q.1).2⟩
    · exact (Ask_miss hx hM (es_none hA.1 hg)).mono fun v' w' q => ⟨(lk_same h q.1).1, q.2, (lk_same h q.1).2⟩
  | some t =>
    have e1 : askE M n = 0 := by unfold askE; rw [hg]; rfl
    have e2 : askM M n Rs x = mput M n (askT t Rs x (askO M n t Rs x)) := by unfold askM; rw [hg, askO_eq]
    have e3 : askV M n Rs x = askO M n t Rs x := by unfold askV; rw [hg, askO_eq]
    rw [e1, e2, e3]
    obtain ⟨m, C, F0, p, FT, hx, hM, hA, hes, hT, hsub, close⟩ := LocksR.hit h hg
    refine (Ask_hit hb hx hM hA hMo hg hes hT (hsm _ (mget_mem hg)) hRl hRs hBr (fun y hy => hap y (hsub y hy))).mono fun v' w' q => ?_
    obtain ⟨E, rfl, FT', hT', hN⟩ := q
    obtain ⟨E2, F2, hK, hN2⟩ := close w' _ _ E hT' hN
    exact ⟨E2, rfl, F2, hK, hN2⟩
theorem CommitR (hb : base ≤ w.heap.size) (hMo : MOk M) (h : LocksR w base k M F) :
    Ret Try.prog 60 #[ptr k 0, .int .i64 n] w (fun v' w' => Gr w w' F ∧ ∃ v, v' = .tuple #[v, .int .i64 (leaveE M n)] ∧ Own w' w.heap.size 3 1 v (comL M n).length ((comL M n).map (Value.int .i64)) ∧ ∃ F', LocksR w' base k (comM M n) F' ∧ NewF w.heap.size F F' ∧ (∀ y, Bl v y → ¬ F' y)) := by
  have h' := h
  obtain ⟨mv, C, F0, hk, hx, hM, hA, hF⟩ := h'
  cases hg : mget M n with
  | none =>
    have e1 : leaveE M n = 18 := by unfold leaveE; rw [hg]; rfl
    have e2 : comM M n = M := by unfold comM; rw [hg]
    have e3 : comL M n = [] := by unfold comL; rw [hg]
    rw [e1, e2, e3]
    have fin : ∀ (v' : Value) (w' : World), (Below w.heap.size w w' ∧ v' = .tuple #[.slice none 0 0, .int .i64 18]) → Gr w w' F ∧ ∃ v, v' = .tuple #[v, .int .i64 18] ∧ Own w' w.heap.size 3 1 v ([] : List Int).length (([] : List Int).map (Value.int .i64)) ∧ ∃ F', LocksR w' base k M F' ∧ NewF w.heap.size F F' ∧ (∀ y, Bl v y → ¬ F' y) := fun v' w' q =>
      ⟨(lk_same h q.1).1, _, q.2, Own.nil _ _ _ _, F, h.keepG (Gr.ofBelow q.1 NoB) (fun _ _ hh => hh), NewF.refl _ _, fun y hy => by cases hy⟩
    rcases hM with ⟨rfl, he⟩ | ⟨m, rfl, hm, hM⟩
    · exact (Com_nomap hx).mono fin
    · exact (Com_miss hx hM (es_none hA.1 hg)).mono fin
  | some t =>
    have e1 : leaveE M n = 0 := by unfold leaveE; rw [hg]; rfl
    have e2 : comM M n = mdel (doomL M t (othersL M n (upQ t))) n := by unfold comM; rw [hg]
    have e3 : comL M n = (othersL M n (upQ t)).filter (hitB M t) := by unfold comL; rw [hg]
    rw [e1, e2, e3]
    rcases hM with ⟨rfl, he⟩ | ⟨m, rfl, hm, hM⟩
    · obtain ⟨q, hq⟩ := es_some hA.1 hg; rw [he] at hq; cases hq
    · refine (Com_hit hb hx hM hA hMo hg).mono fun v' w' q => ?_
      obtain ⟨E, v, rfl, hO, hM', hA'⟩ := q
      have hnk : ¬ (F0 k ∨ k = m) := fun hq => hq.elim (hA.notBx hx (by decide) (by decide) (by decide) (by decide)) (hx.notMap hM)
      rw [← doomL_esOf (T := t) (xs := othersL M n (upQ t)) hA.1] at hM'
      have hx' := hx.keepG E hnk
      obtain ⟨F', hK, hs⟩ := lk_drop (k := k) (Nat.le_trans hb E.size) hk hm hx' hM' hA'
      refine ⟨E.mono fun y _ hy => (hF y).2 (.inr (hy.elim (fun q => .inr q) (fun q => .inl (by rw [q])))), v, rfl, hO, F', hK, fun y hy => .inl ((hF y).2 ((hs y hy).imp id fun q => q.imp (fun q => by rw [q]) id)), fun y hy hf => ?_⟩
      rcases hs y hf with rfl | rfl | q
      · exact hO.neB hx' (by decide) hy
      · exact hO.notMap hM' hy
      · exact hA'.notOwn hO (by decide) (by decide) (by decide) (by decide) y hy q
theorem lk_conv {f : Nat} {as9 : Array Value} {A A' : Value} {M1 M2 : TM} (h : Ret Try.prog f as9 w (fun v' w' => Gr w w' F ∧ v' = A ∧ ∃ F', LocksR w' base k M1 F' ∧ NewF w.heap.size F F')) (hA : A = A') (hM : M1 = M2) :
    Ret Try.prog f as9 w (fun v' w' => Gr w w' F ∧ v' = A' ∧ ∃ F', LocksR w' base k M2 F' ∧ NewF w.heap.size F F') := by subst hA; subst hM; exact h
theorem lockNewR : Ret Try.prog 53 #[] w (fun v' w' => Below w.heap.size w w' ∧ ∃ k F, v' = ptr k 0 ∧ LocksR w' w.heap.size k [] F) := by
  refine (lockNew_ret w).mono fun v' w' q => ?_
  obtain ⟨E, k, hk, rfl, hx⟩ := q
  exact ⟨E, k, _, rfl, .map none, [], NoB, hk, hx, .inl ⟨rfl, rfl⟩, LkAll.nil _ _, fun _ => Iff.rfl⟩
end
end Go.Proofs.Ytmhdbphpmgjpcaa
namespace Go.Proofs.Ytmhdbphpmgjpcaa
open Go.Gx Go.RowKit
end Go.Proofs.Ytmhdbphpmgjpcaa

namespace Go.Proofs.Ytmhdbphpmgjpcaa
open Go.Gx Go.RowKit
attribute [local irreducible] wpList wpStill Code.wp Calls

theorem begun19_ret (w : World) : Ret Try.prog 52 #[] w (fun v' w' => Below w.heap.size w w' ∧ v' = .bool true) := by
 have hb := Below.refl w.heap.size w
 refine enter (N := 57) Try.func52 rfl rfl (by simp) fun a hN hd hA => ?_
 clear hA
 refine zF fun _ a => ?_
 refine zH (zD rfl (zB (a _ _ (zF fun _ a => zH (zj ok53 (lockNewR) trivial ?_)))))
 rintro _ h ⟨d, g, f, rfl, c⟩
 have m : ∀ x, f x → w.heap.size ≤ x := fun x hx => (c.lt x hx).1
 have d := zQ d
 obtain ⟨hb, _⟩ := yE hb d
 have c : LocksR h w.heap.size g ([] : TM) f := c.mono zx
 refine zD (zA hN rfl) (zB (a _ _ (zF fun _ a => zH (zG (zA hN rfl) (zj ok54 (lk_conv (EnterR (n := 1) (s := 1) (l := ([] : List UInt16)) zx (lo := 0) (RdC.nil _ _ _ _) (Nat.zero_le _) (by first | decide | omega) c) (A' := (Value.int .i64 0)) (M2 := ([(1, ⟨[], 1, [], [], false⟩)] : TM)) (by rfl) (by rfl)) ⟨(zA hN rfl), ⟨rfl, ⟨rfl, ⟨rfl, trivial⟩⟩⟩⟩ ?_)))))
 rintro _ m ⟨f, rfl, h, d, g⟩
 have g := c
 have := f.size
 have hb := below_stepG hb f hb.size (fun k hk => (g.lt k hk).1)
 refine zD (zA hN rfl) (zB (a _ _ (zF fun _ a => zH (zG (zA hN rfl) (zj ok54 (lk_conv (EnterR (n := 2) (s := 2) (l := ([] : List UInt16)) zx (lo := 0) (RdC.nil _ _ _ _) (Nat.zero_le _) (by first | decide | omega) d) (A' := (Value.int .i64 0)) (M2 := ([(1, ⟨[], 1, [], [], false⟩), (2, ⟨[], 2, [], [], false⟩)] : TM)) (by rfl) (by rfl)) ⟨(zA hN rfl), ⟨rfl, ⟨rfl, ⟨rfl, trivial⟩⟩⟩⟩ ?_)))))
 rintro _ h ⟨c, rfl, g, f, m⟩
 have g := d
 have := c.size
 have hb := below_stepG hb c hb.size (fun k hk => (g.lt k hk).1)
 refine zD (zA hN rfl) (zB (a _ _ (zF fun _ a => zH (zG (zA hN rfl) (zj ok55 (lk_conv (AskR (n := 1) (Rs := ([] : List (List UInt8))) (x := ([116])) zx (by unfold MOk TOk; decide) (by unfold MSm; decide) zz (RdC.nil _ 0 0 _) (Nat.zero_le _) (fun _ _ => .inr (Nat.zero_le _)) f) (A' := (Value.tuple #[(.int .i64 1), (.int .i64 0)])) (M2 := ([(1, ⟨[], 1, [], [[116]], false⟩), (2, ⟨[], 2, [], [], false⟩)] : TM)) (by rfl) (by rfl)) ⟨(zA hN rfl), ⟨rfl, ⟨rfl, ⟨rfl, trivial⟩⟩⟩⟩ ?_)))))
 rintro _ h ⟨d, rfl, g, c, m⟩
 have h := f
 have := d.size
 have hb := below_stepG hb d hb.size (fun k hk => (h.lt k hk).1)
 refine zG (zA hN rfl) (zW (zA hN rfl) rfl (zW (zA hN rfl) rfl (zD (zA hN rfl) (zD (zA hN rfl) (zB (a _ _ (zF fun _ a => zH (zG (zA hN rfl) (op_bslice (e := 9) (pv := [(0, (.string (bs [116])))]) (cs := [(.string (bs [116]))]) ⟨rfl, rfl, trivial⟩ zy ?_)))))))))
 intro m d o p f h
 have m : ¬ g d := fun hf => by have := (c.lt _ hf).2; omega
 obtain ⟨hb, _⟩ := yE hb h
 have c := c.kz h
 refine zj ok55 (lk_conv (AskR (n := 2) (Rs := [[116]]) (x := []) zx (by unfold MOk TOk; decide) (by unfold MSm; decide) zz (Lr := d) (Br := d + 1) (RdC.ofBx (sz := 1) (n := 1) f rfl zz) (by have := f.lt; omega) (fun y hy => Nat.lt_or_gt_of_ne (fun e => m (e ▸ hy))) c) (A' := (Value.tuple #[(.int .i64 3), (.int .i64 0)])) (M2 := ([(1, ⟨[], 1, [], [[116]], false⟩), (2, ⟨[], 2, [], [], false⟩)] : TM)) (by rfl) (by rfl)) ⟨(zA hN rfl), ⟨rfl, ⟨(zA hN rfl), ⟨rfl, trivial⟩⟩⟩⟩ ?_
 rintro _ o ⟨g, rfl, h, d, m⟩
 have h := f.lt
 have f := c
 have := g.size
 have hb := below_stepG hb g hb.size (fun k hk => (f.lt k hk).1)
 refine zG (zA hN rfl) (zW (zA hN rfl) rfl (zW (zA hN rfl) rfl ?_))
 refine zD (zA hN rfl) (zD (zA hN rfl) (zB (a _ _ (zF fun _ a => zH (zG (zA hN rfl) (op_bin (v := .bool true) (zA hN rfl) rfl (by rw [binOp_eql]; rfl) (zG (zA hN rfl) (zS (j := 2) (dj := 26) (b := true) rfl rfl rfl (zA hN rfl) (zG (zA hN rfl) (zS (j := 2) (dj := 26) (b := true) rfl rfl rfl (zA hN rfl) ?_))))))))))
 refine op_bin (v := .bool true) (zA hN rfl) rfl (by rw [binOp_eql]; rfl) (zc (zA hN rfl) (zA hN rfl) (zG (zA hN rfl) (zS (j := 6) (dj := 30) (b := true) rfl rfl rfl (zA hN rfl) (zG (zA hN rfl) (zS (j := 6) (dj := 30) (b := true) rfl rfl rfl (zA hN rfl) (op_bin (v := .bool true) (zA hN rfl) rfl (by rw [binOp_eql]; rfl) (zc (zA hN rfl) (zA hN rfl) (zG (zA hN rfl) (zS (j := 10) (dj := 34) (b := true) rfl rfl rfl (zA hN rfl) (zG (zA hN rfl) (zS (j := 10) (dj := 34) (b := true) rfl rfl rfl (zA hN rfl) ?_)))))))))))
 refine op_bin (v := .bool true) (zA hN rfl) rfl (by rw [binOp_eql]; rfl) (zc (zA hN rfl) (zA hN rfl) (zG (zA hN rfl) (zS (j := 14) (dj := 38) (b := true) rfl rfl rfl (zA hN rfl) (zG (zA hN rfl) (zS (j := 14) (dj := 38) (b := true) rfl rfl rfl (zA hN rfl) (op_bin (v := .bool true) (zA hN rfl) rfl (by rw [binOp_eql]; rfl) (zc (zA hN rfl) (zA hN rfl) (zG (zA hN rfl) (zS (j := 18) (dj := 42) (b := true) rfl rfl rfl (zA hN rfl) (zG (zA hN rfl) (zS (j := 18) (dj := 42) (b := true) rfl rfl rfl (zA hN rfl) ?_)))))))))))
 refine op_bin (v := .bool true) (zA hN rfl) rfl (by rw [binOp_eql]; rfl) (zc (zA hN rfl) (zA hN rfl) (zG (zA hN rfl) (zS (j := 22) (dj := 46) (b := true) rfl rfl rfl (zA hN rfl) (zG (zA hN rfl) (zS (j := 22) (dj := 46) (b := true) rfl rfl rfl (zA hN rfl) (zj ok70 (WroteR (n := 1) zx (by unfold MSm; decide) d) ⟨(zA hN rfl), ⟨rfl, trivial⟩⟩ ?_))))))
 rintro h g ⟨c, f⟩
 have c := zQ c
 obtain ⟨hb, _⟩ := yE hb c
 have d := d.kz c
 have f := f.mono (base' := w.heap.size) zx
 refine zS (j := 22) (dj := 46) (b := true) rfl rfl rfl (zA hN rfl) (op_len_rd Try.underlying26 (zA hN rfl) f.rdw (zS (j := 22) (dj := 46) (b := true) rfl rfl rfl (zA hN rfl) (op_eql (zA hN rfl) rfl (fun c => ?_) (fun c => ?_))))
 ·
  refine zc (zA hN rfl) (zA hN rfl) (zG (zA hN rfl) (zS (j := 28) (dj := 52) (b := true) rfl rfl rfl (zA hN rfl) (zG (zA hN rfl) (zS (j := 28) (dj := 52) (b := true) rfl rfl rfl (zA hN rfl) (zj ok62 (DoomedR (n := 2) d) ⟨(zA hN rfl), ⟨rfl, trivial⟩⟩ ?_)))))
  rintro _ g ⟨f, rfl⟩
  have f := zQ f
  obtain ⟨hb, _⟩ := yE hb f
  have d := d.kz f
  refine zS (j := 28) (dj := 52) (b := true) rfl rfl rfl (zA hN rfl) (op_not (zA hN rfl) (zc (zA hN rfl) (zA hN rfl) (zD (zA hN rfl) (zB (a _ _ (wp_ret (ret1 rfl hd (zA hN rfl) ⟨_, rfl, ?_⟩)))))))
  exact ⟨hb, rfl⟩
 exact absurd rfl c

theorem CloneR (l : List RD) (v : Value) (w : World) (hz : l.length ≤ 1000000000000) (hl : RdC w 0 w.heap.size 2 v l.length (l.flatMap cellsRd)) (hone : (l.flatMap cellsRd).all Value.oneCell' = true) : Ret Try.prog 112 #[v] w (fun v' w' => Below w.heap.size w w' ∧ Own w' w.heap.size 169 2 v' l.length (l.flatMap cellsRd)) := by
 have hb := Below.refl w.heap.size w
 refine enter (N := 8) Try.func112 rfl rfl (by simp) fun a hN hd hA => ?_
 have b : a.tmps.getD 0 undef = v := hA 0 (by simp)
 clear hA
 refine zF fun _ a => zH (zD rfl (zB (a _ _ (zF fun _ a => zF fun _ c => zH (zG (zC hN rfl b) (op_eql_nil slt158 (zA hN rfl) rfl hl (fun d => ?_) ?_))))))
 ·
  refine zB (c _ _ (wp_cond_true (zA hN rfl) (zF fun _ c => zH (zD rfl (zB (c _ _ (wp_ret (zO ( (ret1 rfl hd (zA hN rfl) ⟨_, rfl, ?_⟩))))))))))
  exact ⟨hb, by rw [List.length_eq_zero_iff.1 d]; exact Own.nil _ _ _ _⟩
 refine zB (c _ _ (wp_cond_false (zA hN rfl) (wp_skip (a _ _ (zF fun _ a => zH (op_bslice (e := 169) (pv := []) (cs := []) trivial zy ?_))))))
 intro f h j g d c
 obtain ⟨hb, _⟩ := yE hb c
 have hl := hl.keep0 c
 refine zG (zC hN rfl b) ?_
 have b := (Own.ofBx (base := w.heap.size) (sz := 2) (n := 0) d rfl zz zx)
 refine op_append slt158 (zA hN rfl) b (zA hN rfl) (Src.ofRd Try.underlying158 zz hl hone) (by unfold maxLen; omega) zx hb.size ?_
 intro f g c d h
 have := d.size
 have hl := hl.keepO b d zx
 have hb := below_stepO hb b d hb.size zx
 have c : Own g w.heap.size 169 2 f (0 + l.length) ((l).flatMap cellsRd) := by simpa [u8v, u16v, sv] using c
 refine zD (zA hN rfl) (zB (a _ _ (wp_ret (ret1 rfl hd (zA hN rfl) ⟨_, rfl, ?_⟩))))
 exact ⟨hb, c.cast (by simp) (by simp)⟩

end Go.Proofs.Ytmhdbphpmgjpcaa

namespace Go.Gx
open Go.RowKit
section
variable {P : Program} {ol : List Oper} {Q : Exit → Act → World → Prop} {bigs : List Nat} {φ : Nat → Value → Prop} {G : World → Prop} {a0 : Act} {N : Nat}
def PhT (bigs : List Nat) (φ : Nat → Value → Prop) (e : List (Nat × Value)) (j : Nat) (u : Value) : Prop := (bigs.contains j = true → e.lookup j = some u) ∧ (bigs.contains j = false → φ j u)
theorem PhT.mono {e : List (Nat × Value)} {i j : Nat} {v u : Value} (hij : j ≠ i) (h : PhT bigs φ e j u) : PhT bigs φ ((i, v) :: e) j u :=
  ⟨fun hb => by rw [List.lookup_cons, beq_false_of_ne hij]; exact h.1 hb, h.2⟩
structure TInv (ol : List Oper) (bigs : List Nat) (φ : Nat → Value → Prop) (a0 : Act) (N : Nat) (listed : Array Bool) (todo : List Nat) (e : List (Nat × Value)) (a : Act) : Prop where
  size : a.tmps.size = N
  defers : a.defers = a0.defers
  base : ∀ t, (∀ j o, ol[j]? = some o → listed.getD j true = true → o.dst ≠ some t) → a.tmps.getD t undef = a0.tmps.getD t undef
  phi : ∀ j o d, ol[j]? = some o → listed.getD j true = true → o.dst = some d → PhT bigs φ e j (a.tmps.getD d undef)
  closed : ∀ j o, ol[j]? = some o → listed.getD j true = true → ∀ x ∈ o.after, Region.binds .any x = true → listed.getD x.on false = true
  lsize : listed.size = ol.length
  todos : ∀ i, i ∈ todo ↔ i ∈ bigs ∧ listed.getD i true = false
  nodup : List.Nodup todo
def KI (P : Program) (ol : List Oper) (bigs : List Nat) (φ : Nat → Value → Prop) (G : World → Prop) (a0 : Act) (N : Nat) (e : List (Nat × Value)) (i : Nat) (w : World) (K : Value → World → Prop) : Prop :=
  ∀ w1, w.grownBy w1 none → G w1 → ∀ a, a.tmps.size = N → (∀ t, safeB ol i t = true → a.tmps.getD t undef = a0.tmps.getD t undef) → (∀ j oj d, depB ol i j = true → ol[j]? = some oj → oj.dst = some d → PhT bigs φ e j (a.tmps.getD d undef)) →
    ∀ o, ol[i]? = some o → wpList P ol.toArray (fun ex a' w' => ex = .normal ∧ ∃ v, ((o.dst = none ∧ a' = a) ∨ ∃ d, o.dst = some d ∧ a' = putsL a [(d, v)]) ∧ K v w' ∧ G w') [o] (putsL a []) w1
def readyT (ol : List Oper) (todo : List Nat) : List Nat := todo.filter fun i => todo.all fun j => !depB ol i j
def KT (P : Program) (ol : List Oper) (bigs : List Nat) (φ : Nat → Value → Prop) (G : World → Prop) (a0 : Act) (N : Nat) (Q : Exit → Act → World → Prop) : Nat → List Nat → List (Nat × Value) → World → Prop
  | 0, _, e, w => ∀ w1, w.grownBy w1 none → ∀ a', a'.tmps.size = N → a'.defers = a0.defers → (∀ t, (ol.all fun o => o.dst != some t) = true → a'.tmps.getD t undef = a0.tmps.getD t undef) →
      (∀ j oj d, ol[j]? = some oj → oj.dst = some d → PhT bigs φ e j (a'.tmps.getD d undef)) → Q .normal (putsL a' []) w1
  | n + 1, todo, e, w => ∀ i ∈ readyT ol todo, KI P ol bigs φ G a0 N e i w fun v w' => KT P ol bigs φ G a0 N Q n (todo.erase i) ((i, v) :: e) w'
theorem KT.stable : ∀ {n : Nat} {todo : List Nat} {e : List (Nat × Value)} {w w2 : World}, KT P ol bigs φ G a0 N Q n todo e w → w.grownBy w2 none → KT P ol bigs φ G a0 N Q n todo e w2
  | 0, _, _, _, _, h, E => fun w1 E1 => h w1 (grown_trans E E1)
  | _ + 1, _, _, _, _, h, E => fun i hi w1 E1 => h i hi w1 (grown_trans E E1)
def ObR9 (P : Program) (ol : List Oper) (bigs : List Nat) (φ : Nat → Value → Prop) (G : World → Prop) (a0 : Act) (N : Nat) (i : Nat) (o : Oper) : Prop :=
  ∀ (e : List (Nat × Value)) (a : Act) (w : World), a.tmps.size = N → G w → (∀ t, safeB ol i t = true → a.tmps.getD t undef = a0.tmps.getD t undef) → (∀ j oj d, depB ol i j = true → ol[j]? = some oj → oj.dst = some d → PhT bigs φ e j (a.tmps.getD d undef)) →
    wpList P ol.toArray (fun ex a' w' => ex = .normal ∧ (∃ d v, o.dst = some d ∧ a' = putsL a [(d, v)] ∧ φ i v) ∧ w.grownBy w' none) [o] (putsL a []) w
def ObRs9 (P : Program) (ol : List Oper) (bigs : List Nat) (φ : Nat → Value → Prop) (G : World → Prop) (a0 : Act) (N : Nat) : Nat → List Oper → Prop
  | _, [] => True
  | i, o :: r => (bigs.contains i = false → ObR9 P ol bigs φ G a0 N i o) ∧ ObRs9 P ol bigs φ G a0 N (i + 1) r
theorem ObRs9.nil {i : Nat} : ObRs9 P ol bigs φ G a0 N i [] := trivial
theorem ObRs9.cons {i : Nat} {o : Oper} {r : List Oper} (h : ObR9 P ol bigs φ G a0 N i o) (h' : ObRs9 P ol bigs φ G a0 N (i + 1) r) : ObRs9 P ol bigs φ G a0 N i (o :: r) := ⟨fun _ => h, h'⟩
theorem ObRs9.pass {i : Nat} {o : Oper} {r : List Oper} (hh : bigs.contains i = true) (h' : ObRs9 P ol bigs φ G a0 N (i + 1) r) : ObRs9 P ol bigs φ G a0 N i (o :: r) := ⟨fun h => absurd (hh.symm.trans h) (by decide), h'⟩
theorem ObRs9.getx : ∀ {l : List Oper} {i : Nat}, ObRs9 P ol bigs φ G a0 N i l → ∀ j o, l[j]? = some o → bigs.contains (i + j) = false → ObR9 P ol bigs φ G a0 N (i + j) o
  | [], _, _, j, o, h, _ => by simp at h
  | o' :: r, i, h, 0, o, hj, hs => by simp at hj; subst hj; exact h.1 hs
  | o' :: r, i, h, j + 1, o, hj, hs => by
    have := ObRs9.getx h.2 j o (by simpa using hj) (by rwa [show i + 1 + j = i + (j + 1) by omega])
    rwa [show i + 1 + j = i + (j + 1) by omega] at this
theorem region_tree_steps (hlex : lexB' ol = true) (hdn : dstNB ol N = true) (hdst : dstsB ol = true) (hbl : (bigs.all fun i => Nat.blt i ol.length) = true)
    (hG : ∀ w1 w2, w1.grownBy w2 none → G w1 → G w2) (obL : ∀ i o, ol[i]? = some o → bigs.contains i = false → ObR9 P ol bigs φ G a0 N i o) :
    ∀ (fuel : Nat) (listed : Array Bool) (todo : List Nat) (e : List (Nat × Value)) (a : Act) (w : World), TInv ol bigs φ a0 N listed todo e a → KT P ol bigs φ G a0 N Q todo.length todo e w → G w → (List.range ol.length).countP (fun i => !listed.getD i true) ≤ fuel → wpAny P .any ol.toArray Q fuel listed a w := by
  have done : ∀ (listed : Array Bool) (todo : List Nat) (e : List (Nat × Value)) (a : Act) (w : World), TInv ol bigs φ a0 N listed todo e a → KT P ol bigs φ G a0 N Q todo.length todo e w → Region.ready .any ol.toArray listed = [] → Q .normal a w := by
    intro listed todo ee a w I hk hr
    have hall : ∀ i, i < ol.length → listed.getD i true = true := by
      intro i
      induction i using Nat.strongRecOn with
      | _ i ih =>
        intro hi
        by_cases hq : listed.getD i true = true
        · exact hq
        · exfalso
          have hm : i ∈ Region.ready .any ol.toArray listed := by
            rw [mem_ready]
            refine ⟨by simpa using hq, ol[i], by simp [hi], fun e he hb => ?_⟩
            have h1 := List.all_eq_true.1 hlex i (by simp [hi])
            simp only [List.getElem?_eq_getElem hi, Array.all_eq_true_iff_forall_mem, Bool.or_eq_true, Bool.not_eq_true', Nat.blt_eq] at h1
            have h2 := (h1 e he).resolve_left (by simp [hb])
            exact getD_true_lt (ih e.on h2 (by omega)) (by rw [I.lsize]; omega)
          rw [hr] at hm
          cases hm
    have ht : todo = [] := by
      rw [List.eq_nil_iff_forall_not_mem]
      intro i hi
      obtain ⟨hb, hl⟩ := (I.todos i).1 hi
      have := List.all_eq_true.1 hbl i hb
      rw [hall i (by simpa [Nat.blt_eq] using this)] at hl
      cases hl
    subst ht
    exact hk w (grown_refl _ _) a I.size I.defers (fun t ht => I.base t fun j o hj _ hd' => by
      have := List.all_eq_true.1 ht o (List.mem_of_getElem? hj)
      simp [hd'] at this) (fun j oj d hj hd' => I.phi j oj d hj (hall j (List.getElem?_eq_some_iff.1 hj).1) hd')
  intro fuel
  induction fuel with
  | zero =>
    intro listed todo ee a w I hk hg hcnt
    have hr : Region.ready .any ol.toArray listed = [] := by
      rw [List.eq_nil_iff_forall_not_mem]
      intro i hi
      obtain ⟨h1, o, ho, _⟩ := mem_ready.1 hi
      have hlt : i < ol.length := by simpa using (Array.getElem?_eq_some_iff.1 ho).1
      have hz : (List.range ol.length).countP (fun i => !listed.getD i true) = 0 := by omega
      rw [List.countP_eq_zero] at hz
      exact hz i (by simp [hlt]) (by simp [h1])
    exact ⟨hr, done listed todo ee a w I hk hr⟩
  | succ fuel ih =>
    intro listed todo ee a w I hk hg hcnt
    refine ⟨fun hr => done listed todo ee a w I hk hr, fun i hi => ?_⟩
    obtain ⟨hun, o, ho, hwait⟩ := mem_ready.1 hi
    have ho' : ol[i]? = some o := by simpa using ho
    have hlt : i < ol.length := (List.getElem?_eq_some_iff.1 ho').1
    have hls : i < listed.size := by rw [I.lsize]; exact hlt
    have hcnt' : (List.range ol.length).countP (fun j => !(listed.setIfInBounds i true).getD j true) ≤ fuel := by
      have : (List.range ol.length).countP (fun j => !(listed.setIfInBounds i true).getD j true) < (List.range ol.length).countP (fun j => !listed.getD j true) := by
        refine countP_lt _ _ (fun y hy => ?_) _ i (by simp [hlt]) (by simp [hun]) (by simp [Array.getD_eq_getD_getElem?, hls])
        by_cases hiy : i = y
        · subst hiy; simp [Array.getD_eq_getD_getElem?, hls] at hy
        · rwa [getD_set_ne true hiy] at hy
      omega
    have hbase : ∀ t, safeB ol i t = true → a.tmps.getD t undef = a0.tmps.getD t undef := by
      intro t ht
      refine I.base t fun j oj hj hlj hd => ?_
      have h1 := List.all_eq_true.1 ht oj (List.mem_of_getElem? hj)
      simp only [Bool.or_eq_true, bne_iff_ne, ne_eq, Array.any_eq_true, Bool.and_eq_true, beq_iff_eq] at h1
      rcases h1 with h1 | ⟨q, hq, h1, h2⟩
      · exact h1 hd
      · have := getD_of_false (I.closed j oj hj hlj _ (Array.getElem_mem hq) h2)
        rw [h1, hun] at this
        cases this
    have hdep : ∀ j oj d, depB ol i j = true → ol[j]? = some oj → oj.dst = some d → PhT bigs φ ee j (a.tmps.getD d undef) := by
      intro j oj d hj hoj hd
      obtain ⟨e, he, h1, h2⟩ := depB_spec ho' hj
      exact I.phi j oj d hoj (getD_of_false (by rw [← h1]; exact hwait e he h2)) hd
    have hset : ∀ j, j ≠ i → (listed.setIfInBounds i true).getD j true = listed.getD j true := fun j hj => getD_set_ne true (Ne.symm hj)
    have hseti : (listed.setIfInBounds i true).getD i true = true := by simp [Array.getD_eq_getD_getElem?, hls]
    have hclosed : ∀ j oj, ol[j]? = some oj → (listed.setIfInBounds i true).getD j true = true → ∀ e ∈ oj.after, Region.binds .any e = true → (listed.setIfInBounds i true).getD e.on false = true := by
      intro j oj hoj hlj e he hb
      refine getD_set_true ?_
      by_cases hji : j = i
      · subst hji
        rw [ho'] at hoj; cases hoj
        exact hwait e he hb
      · rw [hset j hji] at hlj
        exact I.closed j oj hoj hlj e he hb
    have hne : ∀ j oj d, ol[j]? = some oj → j ≠ i → o.dst = some d → oj.dst ≠ some d := by
      intro j oj d hoj hji hd hd'
      have hj : j < ol.length := (List.getElem?_eq_some_iff.1 hoj).1
      have h1 := List.all_eq_true.1 (List.all_eq_true.1 hdst i (by simp [hlt])) j (by simp [hj])
      simp only [ho', hoj, Bool.or_eq_true, beq_iff_eq, bne_iff_ne, ne_eq] at h1
      rcases h1 with h1 | h1 | h1
      · exact hji h1.symm
      · exact h1 (by rw [hd, hd'])
      · rw [hd] at h1; cases h1
    -- what is left of the frame, behind a value in slot d
    have hframe : ∀ d v (e' : List (Nat × Value)), o.dst = some d → (∀ j u, j ≠ i → PhT bigs φ ee j u → PhT bigs φ e' j u) → PhT bigs φ e' i v → 
        (∀ t, (∀ j oj, ol[j]? = some oj → (listed.setIfInBounds i true).getD j true = true → oj.dst ≠ some t) → (putsL a [(d, v)]).tmps.getD t undef = a0.tmps.getD t undef) ∧
        (∀ j oj d', ol[j]? = some oj → (listed.setIfInBounds i true).getD j true = true → oj.dst = some d' → PhT bigs φ e' j ((putsL a [(d, v)]).tmps.getD d' undef)) := by
      intro d v e' hd hR hv
      have hdN : d < a.tmps.size := by
        have h1 := List.all_eq_true.1 hdn o (List.mem_of_getElem? ho')
        simp only [hd, Nat.blt_eq] at h1
        rw [I.size]; exact h1
      refine ⟨fun t ht => ?_, fun j oj d' hoj hlj hd' => ?_⟩
      · have hdt : d ≠ t := fun e => ht i o ho' hseti (by rw [hd, e])
        rw [get_put_ne hdt]
        refine I.base t fun j oj hoj hlj => ?_
        by_cases hji : j = i
        · subst hji; rw [hun] at hlj; cases hlj
        · exact ht j oj hoj (by rw [hset j hji]; exact hlj)
      · by_cases hji : j = i
        · subst hji
          rw [ho'] at hoj; cases hoj
          rw [hd] at hd'; cases hd'
          rw [get_put_eq hdN]
          exact hv
        · rw [hset j hji] at hlj
          have : d ≠ d' := fun e => hne j oj d hoj hji hd (by rw [hd', e])
          rw [get_put_ne this]
          exact hR j _ hji (I.phi j oj d' hoj hlj hd')
    by_cases hin : bigs.contains i = true
    · have hmem : i ∈ bigs := by simpa using hin
      have hit : i ∈ todo := (I.todos i).2 ⟨hmem, hun⟩
      have hrt : i ∈ readyT ol todo := by
        unfold readyT
        rw [List.mem_filter]
        refine ⟨hit, List.all_eq_true.2 fun j hj => ?_⟩
        cases hd : depB ol i j with
        | false => rfl
        | true =>
          obtain ⟨x, hx, h1, h2⟩ := depB_spec ho' hd
          have h3 := getD_of_false (hwait x hx h2)
          rw [h1, ((I.todos j).1 hj).2] at h3
          cases h3
      obtain ⟨n, hn⟩ : ∃ n, todo.length = n + 1 := ⟨todo.length - 1, by have := List.length_pos_of_mem hit; omega⟩
      have hn2 : (todo.erase i).length = n := by rw [List.length_erase_of_mem hit, hn]; rfl
      rw [hn] at hk
      have h0 := hk i hrt w (grown_refl _ _) hg a I.size hbase hdep o ho'
      refine wp_one (by simpa using ho') h0 fun a' w' h => ?_
      obtain ⟨v, h1, h2, h3⟩ := h
      have htodo : ∀ x, x ∈ todo.erase i ↔ x ∈ bigs ∧ (listed.setIfInBounds i true).getD x true = false := by
        intro x
        rw [I.nodup.mem_erase_iff, I.todos]
        by_cases hxi : x = i
        · subst hxi; simp [hseti]
        · rw [hset x hxi]; simp [hxi]
      refine ih _ (todo.erase i) ((i, v) :: ee) a' w' ?_ (by rw [hn2]; exact h2) h3 hcnt'
      have hpi : PhT bigs φ ((i, v) :: ee) i v := ⟨fun _ => by simp, fun hh => absurd (hin.symm.trans hh) (by decide)⟩
      rcases h1 with ⟨hd, rfl⟩ | ⟨d, hd, rfl⟩
      · refine ⟨I.size, I.defers, fun t ht => ?_, fun j oj d' hoj hlj hd' => ?_, hclosed, by simp [I.lsize], htodo, I.nodup.erase i⟩
        · refine I.base t fun j oj hoj hlj => ?_
          by_cases hji : j = i
          · subst hji; rw [hun] at hlj; cases hlj
          · exact ht j oj hoj (by rw [hset j hji]; exact hlj)
        · by_cases hji : j = i
          · subst hji
            rw [ho'] at hoj; cases hoj
            rw [hd] at hd'; cases hd'
          · rw [hset j hji] at hlj
            exact PhT.mono hji (I.phi j oj d' hoj hlj hd')
      · obtain ⟨f1, f2⟩ := hframe d v ((i, v) :: ee) hd (fun j u hj h => h.mono hj) hpi
        exact ⟨by rw [putsL_size, I.size], by rw [putsL_defers, I.defers], f1, f2, hclosed, by simp [I.lsize], htodo, I.nodup.erase i⟩
    · have hin' : bigs.contains i = false := by simpa using hin
      refine wp_one (by simpa using ho') (obL i o ho' hin' ee a w I.size hg hbase hdep) fun a' w' h => ?_
      obtain ⟨⟨d, v, hd, rfl, hv⟩, hgr⟩ := h
      obtain ⟨f1, f2⟩ := hframe d v ee hd (fun _ _ _ h => h) ⟨fun hh => absurd (hin'.symm.trans hh) (by decide), fun _ => hv⟩
      refine ih _ todo ee _ w' ⟨by rw [putsL_size, I.size], by rw [putsL_defers, I.defers], f1, f2, hclosed, by simp [I.lsize], fun x => ?_, I.nodup⟩ (hk.stable hgr) (hG _ _ hgr hg) hcnt'
      rw [I.todos]
      by_cases hxi : x = i
      · subst hxi; simp [hseti, hun]; simpa using hin'
      · rw [hset x hxi]
theorem any_tree (bigs : List Nat) (hlex : lexB' ol = true) (hdn : dstNB ol N = true) (hdst : dstsB ol = true) (hbl : (bigs.all fun i => Nat.blt i ol.length) = true) (hnd : decide bigs.Nodup = true)
    {l : List (Nat × Value)} {w : World} (hN : a0.tmps.size = N) (hG : ∀ w1 w2, w1.grownBy w2 none → G w1 → G w2) (g0 : G w) (obL : ObRs9 P ol bigs φ G (putsL a0 l) N 0 ol) (hdf : (putsL a0 l).defers = a0.defers)
    (main : KT P ol bigs φ G (putsL a0 l) N Q bigs.length bigs [] w) : RegAny P ol Q (putsL a0 l) w := by
  have hd : w.grownBy { w with drawn := w.drawn + 1 } none := ⟨rfl, rfl, rfl, Nat.le_refl _, fun _ _ _ => rfl⟩
  have I : TInv ol bigs φ (putsL a0 l) N (Array.replicate ol.length false) bigs [] (putsL a0 l) := by
    refine ⟨slN hN, rfl, fun _ _ => rfl, fun j o d hj hl => ?_, fun j o hj hl => ?_, by simp, fun i => ⟨fun hi => ⟨hi, ?_⟩, fun hi => hi.1⟩, of_decide_eq_true hnd⟩
    · have : j < ol.length := (List.getElem?_eq_some_iff.1 hj).1
      simp [Array.getD_eq_getD_getElem?, this] at hl
    · have : j < ol.length := (List.getElem?_eq_some_iff.1 hj).1
      simp [Array.getD_eq_getD_getElem?, this] at hl
    · have := List.all_eq_true.1 hbl i hi
      have h3 : i < ol.length := by simpa [Nat.blt_eq] using this
      simp [Array.getD_eq_getD_getElem?, h3]
  exact region_tree_steps (P := P) (Q := Q) hlex hdn hdst hbl hG (fun i o hi hh => by
      have h5 := ObRs9.getx obL i o hi (by rw [Nat.zero_add]; exact hh)
      rw [Nat.zero_add] at h5; exact h5) ol.length (Array.replicate ol.length false) bigs [] (putsL a0 l) _ I (main.stable hd) (hG _ _ hd g0) (Nat.le_trans (List.countP_le_length) (by simp))
theorem kt_step {n : Nat} {todo rs : List Nat} {e : List (Nat × Value)} {w : World} (hr : readyT ol todo = rs) (h : ∀ i ∈ rs, KI P ol bigs φ G a0 N e i w fun v w' => KT P ol bigs φ G a0 N Q n (todo.erase i) ((i, v) :: e) w') : KT P ol bigs φ G a0 N Q (n + 1) todo e w := by
  subst hr; exact h
theorem one_mem {p : Nat → Prop} {x : Nat} (h : p x) : ∀ i ∈ [x], p i := fun i hi => by
  obtain rfl : i = x := by simpa using hi
  exact h
theorem more_mem {p : Nat → Prop} {x y : Nat} {r : List Nat} (h : p x) (h' : ∀ i ∈ y :: r, p i) : ∀ i ∈ x :: y :: r, p i := List.forall_mem_cons.2 ⟨h, h'⟩
theorem kt_end {o : Oper} {d : Nat} {v : Value} {a : Act} {w : World} {K : Value → World → Prop} (hd : o.dst = some d) (g : G w) (h : K v w) :
    wpList P ol.toArray (fun ex a' w' => ex = .normal ∧ ∃ v, ((o.dst = none ∧ a' = a) ∨ ∃ d, o.dst = some d ∧ a' = putsL a [(d, v)]) ∧ K v w' ∧ G w') [] (putsL a [(d, v)]) w := ⟨rfl, v, .inr ⟨d, hd, rfl⟩, h, g⟩
theorem obT_end {o : Oper} {i d : Nat} {v : Value} {a : Act} {w : World} (hd : o.dst = some d) (hv : φ i v) :
    wpList P ol.toArray (fun ex a' w' => ex = .normal ∧ (∃ d v, o.dst = some d ∧ a' = putsL a [(d, v)] ∧ φ i v) ∧ w.grownBy w' none) [] (putsL a [(d, v)]) w := ⟨rfl, ⟨d, v, hd, rfl, hv⟩, grown_refl _ _⟩
end
end Go.Gx

namespace Go.Proofs.Ytmhdbphpmgjpcaa
open Go.Gx Go.RowKit
attribute [local irreducible] wpList wpStill Code.wp Calls

theorem rd_one {w : World} {base : Nat} {D : List RD} (h : ∀ x9 ∈ D.map rdL, Own w base 46 1 x9.1 x9.2.length (x9.2.map u16v)) : (D.flatMap cellsRd).all Value.oneCell' = true := List.all_eq_true.2 fun v hv => by
  obtain ⟨r, hr, h2⟩ := List.mem_flatMap.1 hv
  simp only [cellsRd, List.mem_cons, List.not_mem_nil, or_false] at h2
  rcases h2 with rfl | rfl
  · rfl
  · exact (h _ (List.mem_map.2 ⟨r, hr, rfl⟩)).one

theorem LCopy_m {k m base : Nat} {M : TM} {C : List TC} {F0 : Nat → Prop} {w : World} (hbase : base ≤ w.heap.size) (hk : Bx w k 121 [.map (some m)]) (hM : MapC (.int .i64) pv w m (esOf M C)) (hA : LkAll w base M C F0) (hS : MSm M) (hnd : (M.map Prod.fst).Nodup) : Ret Try.prog 67 #[(ptr k 0)] w (fun v' w' => Below w.heap.size w w' ∧ ∃ (c m2 : Nat) (Dd : List Nat) (C2 : List TC) (FC : Nat → Prop), v' = ptr c 0 ∧ w.heap.size ≤ c ∧ w.heap.size ≤ m2 ∧ Bx w' c 121 [.map (some m2)] ∧ MapC (.int .i64) pv w' m2 (esOf (pick M Dd) C2) ∧ LkAll w' base (pick M Dd) C2 FC ∧ (pick M Dd).Perm M ∧ FCin w.heap.size C Dd FC) := by
 have hi_k := hk.lt
 have hi_m := hM.lt
 have a := fun x h => (hA.lt x h).2
 have hb := Below.refl w.heap.size w
 refine enter (N := 47) Try.func67 rfl rfl (by simp) fun b hN hd hA => ?_
 have d : b.tmps.getD 0 undef = (ptr k 0) := hA 0 (by simp)
 clear hA
 refine zF fun _ e => zH (zD rfl ?_)
 refine zB (e _ _ (zF fun _ e => zF fun _ f => zH (zG (zC hN rfl d) (op_peq_some ptrt93 (zA hN rfl) rfl (zB (f _ _ (wp_cond_false (zA hN rfl) (wp_skip (e _ _ (zF fun _ e => zH (op_mkmap (kv := (Value.int .i64)) (vv := pv) ?_)))))))))))
 intro o g p r n l
 have t : ¬ F0 g := fun hf => by have := (hA.lt _ hf).2; omega
 obtain ⟨hb, _⟩ := yE hb l
 have hA := hA.kz l
 refine zf (pv := [(0, (Value.map (some g)))]) (v := (Value.agg #[(Value.map (some g))])) ⟨rfl, (zA hN rfl), trivial⟩ zy (op_box (cs := [(Value.map (some g))]) (zA hN rfl) rfl ?_)
 intro D A G F y z
 obtain ⟨hb, _⟩ := yE hb z
 have hk := (hk.keep0 l).keep0 z
 have hM := (hM.keep0 l).keep0 z
 have hA := hA.kz z
 refine zD (zA hN rfl) (zB (e _ _ (zF fun _ e => zF fun _ f => zH (zG (zC hN rfl d) (op_nil (zA hN rfl) (zM fld121_0 (zA hN rfl) (zN one119 (zA hN rfl) (hk.cell rfl) (op_range Try.underlying119 (zA hN rfl) hM ?_))))))))
 intro J I L K hJ H
 obtain ⟨hb, _⟩ := yE hb H
 have hk := hk.keep0 H
 have hA := hA.kz H
 have n := (n.keep0 z).keep0 H
 have y := y.keep0 H
 refine zB (f _ _ (wp_block (loop_m (fun mz_ az_ w' => ∃ (Dd : List Nat) (C2 : List TC) (FC : Nat → Prop), mz_ = (esOf M C).length - Dd.length ∧ (Sl az_ 2 (Value.pointer none)) ∧ (Sl az_ 3 (ptr A 0)) ∧ (Sl az_ 16 (ptr I 0)) ∧ (C2.length = Dd.length) ∧ (FCin w.heap.size C Dd FC) ∧ (Below w.heap.size w w') ∧ (J.heap.size ≤ w'.heap.size) ∧ (Bx w' k 121 [(Value.map (some m))]) ∧ (LkAll w' base M C F0) ∧ (Bx w' A 121 [(Value.map (some g))]) ∧ (MapC (.int .i64) pv w' g (esOf (pick M Dd) C2)) ∧ (LkAll w' base (pick M Dd) C2 FC) ∧ (ItC (.int .i64) pv w' I m (esOf M C) Dd)) _ hN hd ⟨[], [], NoB, rfl, (zU hN rfl), (zU hN rfl), (zU hN rfl), rfl, FCin.nil, hb, (Nat.le_refl _), hk, hA, y, n, (LkAll.nil _ _), hJ⟩ ?_)))
 rintro _ W V O R ⟨Dd, C2, FC, rfl, T, S, Q, hcl, hFC, hb, U, hk, hA, y, P, hC, hJ⟩
 have := hb.size
 refine zF fun _ f => zH ?_
 have hJ_old := hJ
 refine op_next (zC O rfl Q) hJ (fun hall => ?_) (fun Z i9 k9 X aa ab hJ Y => ?_)
 ·
  refine zW (zA O rfl) rfl ?_
  refine zB (f _ _ (zF fun _ f => wp_cond_false (zA O rfl) (wp_exit (then_exit (then_exit (blk_hit (e _ _ (zF fun _ e => zH (zG (zC O rfl S) (zD (zA O rfl) (zB (e _ _ (wp_ret (ret1 rfl R (zA O rfl) ⟨_, rfl, ?_⟩))))))))))))))
  have ac := esOf_len hA.1
  exact ⟨hb, A, g, Dd, C2, FC, rfl, by omega, by omega, y, P, hC, pick_perm hJ.rng.1 (fun j hj => ac ▸ hJ.rng.2 j hj) (fun j hj => hall j zx), hFC⟩
 have := Y.size
 have hk := hk.keep Y (fun hh => Bx.notIt hk hJ_old (zE hh))
 have hA := hA.keepG (Gr.of Y) (Dj.one (hA.notIt hJ_old))
 have y := y.keep Y (fun hh => Bx.notIt y hJ_old (zE hh))
 have P := P.keep Y (fun hh => It_ne P hJ_old (zE hh))
 have hC := hC.keepG (Gr.of Y) (Dj.one (hC.notIt hJ_old))
 have hb := below_step1 hb Y hb.size zx
 refine zW (zA O rfl) rfl (zB (f _ _ (zF fun _ f => wp_cond_true (zA O rfl) (wp_skip (f _ _ (wp_block ?_))))))
 refine zF fun _ f => zH (op_entry (k := k9) (v := X) (zC O rfl Q) hJ aa (zW (zA O rfl) rfl (zW (zA O rfl) rfl (zD (zA O rfl) (zD (zA O rfl) (zB (f _ _ (zF fun _ f => zH ?_))))))))
 have hFCz := fun x h => (hC.lt x h).2
 obtain ⟨T9, ad, af, ae, D9, ag, hiM, hgM, hgC⟩ := esOf_at hA.1 aa
 have hTx := hA.2.1 i9 ag
 rw [hgM, hgC] at hTx
 have ah : Bx Z X 164 [ad, (.int .u64 T9.stamp), af, ae, (.bool T9.doomed)] := hTx.2.1
 have ai : Own Z base 46 1 ad T9.label.length (T9.label.map u16v) := hTx.2.2.1
 have aj : Own Z base 169 2 af D9.length (D9.flatMap cellsRd) := hTx.2.2.2.1
 have ak : ∀ x9 ∈ (D9.map rdL), Own Z base 46 1 x9.1 x9.2.length (x9.2.map u16v) := hTx.2.2.2.2.1
 have al : Own Z base 9 1 ae T9.writes.length (T9.writes.map sv) := hTx.2.2.2.2.2.1
 have am : base ≤ X := hTx.1
 have an : D9.map rOf = T9.reads := hTx.2.2.2.2.2.2
 have ao := rd_one ak
 have ap := hS _ (List.mem_of_getElem? hiM)
 have aq : D9.length ≤ 50000 := by have h9 := ap.1; rw [← an, List.length_map] at h9; exact h9
 have ar : T9.writes.length ≤ 50000 := ap.2
 have au := ah.lt
 have ac := esOf_len hA.1
 have hDl : ∀ j ∈ Dd, j < M.length := fun j hj => ac ▸ hJ.rng.2 j (List.mem_append.2 (.inl hj))
 refine zG (zA O rfl) (op_nil (zA O rfl) (zY agg164 rfl (zA O rfl) ah (op_alloc (cs := [(.slice none 0 0), (.int .u64 0), (.slice none 0 0), (.slice none 0 0), (.bool false)]) zero164 rfl ?_)))
 intro ay av az ax ac aw
 have aB : ¬ F0 av := fun hf => by have := (hA.lt _ hf).2; omega
 have aC : ¬ FC av := fun hf => by have := (hC.lt _ hf).2; omega
 obtain ⟨hb, _⟩ := yE hb aw
 have hk := hk.keep0 aw
 have y := y.keep0 aw
 have ah := ah.keep0 aw
 have ai := ai.keep0 aw
 have aj := aj.keep0 aw
 have ak := all9 ak fun _ h => h.keep0 aw
 have al := al.keep0 aw
 have aD := ac
 refine zZ size164 (zA O rfl) (zA O rfl) rfl (by simp only [yA, yB, yC, yD, ai.one, aj.one, al.one]; try rfl) ac rfl ?_
 intro aF ac aE
 have := aE.size
 have hk := hk.keep aE (sN hk aD)
 have hA := (hA.kz aw).keepG (Gr.of aE) (Dj.one aB)
 have y := y.keep aE (sN y aD)
 have P := (P.keep0 aw).keepB aD aE
 have hC := (hC.kz aw).keepG (Gr.of aE) (Dj.one aC)
 have hJ := (hJ.keepG (zi aw NoB) (fun h => h) (fun h => h)).keepG (Gr.of aE) (fun q => by have := zE q; omega) (fun q => by have := zE q; omega)
 have ah := ah.keep aE sB
 have ai := ai.keepX aD aE zz
 have aj := aj.keepX aD aE zz
 have ak := all9 ak fun _ h => h.keepX aD aE zz
 have al := al.keepX aD aE zz
 have hb := below_step1 hb aE hb.size zx
 refine zB (f _ _ (zF fun _ f => reg_split (hd := [_, _, _, _, _, _, _, _, _, _, _]) (tl := _) 11 mixed zy rfl rfl (any_quiet (Φ := phiL [(fun uz _ => uz = (ptr X 0)), (fun uz _ => uz = (ptr X 0)), (fun uz _ => uz = (ptr X 2)), (fun uz _ => uz = (ptr X 2)), (fun uz _ => uz = af), (fun uz w' => ∃ (aG : Value), uz = aG ∧ Own w' aF.heap.size 169 2 aG D9.length (D9.flatMap cellsRd)), (fun uz _ => uz = (ptr X 0)), (fun uz _ => uz = (ptr X 0)), (fun uz _ => uz = (ptr X 3)), (fun uz _ => uz = (ptr X 3)), (fun uz _ => uz = ae)]) zy zy zy O (StL.get (StL.eq (StL.eq (StL.eq (StL.eq (StL.eq (StL.cons (fun u o w2 E h => by obtain ⟨x0, hv, f0⟩ := h; exact ⟨x0, hv, f0.keep0 E⟩) (StL.eq (StL.eq (StL.eq (StL.eq (StL.eq (StL.nil _))))))))))))) (ObL.get (s := 11) (ObL.cons ?_ (ObL.cons ?_ (ObL.cons ?_ (ObL.cons ?_ (ObL.cons ?_ (ObL.cons ?_ (ObL.cons ?_ (ObL.cons ?_ (ObL.cons ?_ (ObL.cons ?_ (ObL.cons ?_ (ObL.nil)))))))))))) rfl) ?_)))
 ·
  intro aA wA hNA hRA hbsA hdpA
  have aH := (hbsA 5 rfl).trans (zU O rfl)
  refine zG (zC hNA rfl aH) ?_
  exact obN_end rfl rfl (grown_refl _ _)
 ·
  intro aA wA hNA hRA hbsA hdpA
  have aI : Sl aA 25 (ptr X 0) := hdpA 0 _ 25 zy rfl rfl
  refine op_nil (zC hNA rfl aI) ?_
  exact obN_end rfl rfl (grown_refl _ _)
 ·
  intro aA wA hNA hRA hbsA hdpA
  have aI : Sl aA 26 (ptr X 0) := hdpA 1 _ 26 zy rfl rfl
  refine zM fld164_2 (zC hNA rfl aI) ?_
  exact obN_end rfl rfl (grown_refl _ _)
 ·
  intro aA wA hNA hRA hbsA hdpA
  have aI : Sl aA 27 (ptr X 2) := hdpA 2 _ 27 zy rfl rfl
  refine zM fld160_0 (zC hNA rfl aI) ?_
  exact obN_end rfl rfl (grown_refl _ _)
 ·
  intro aA wA hNA hRA hbsA hdpA
  have hRA : aF.grownBy wA none := hRA
  have := hRA.size
  have ah := ah.keep0 hRA
  have aI : Sl aA 28 (ptr X 2) := hdpA 3 _ 28 zy rfl rfl
  clear hbsA hdpA
  refine zN one158 (zC hNA rfl aI) (ah.cell rfl) ?_
  exact obN_end rfl rfl (grown_refl _ _)
 ·
  intro aA wA hNA hRA hbsA hdpA
  have hRA : aF.grownBy wA none := hRA
  have := hRA.size
  have aj := aj.keep0 hRA
  have aI : Sl aA 29 af := hdpA 4 _ 29 zy rfl rfl
  clear hbsA hdpA
  refine zj ok112 (CloneR D9 _ _ zx (aj.rdw.mono (Nat.zero_le _) zx) ao) ⟨(zC hNA rfl aI), trivial⟩ ?_
  rintro aG aK ⟨aJ, aI⟩
  have aJ := zQ aJ
  have := aJ.size
  have aI := aI.mono (base' := aF.heap.size) zx
  exact obN_end rfl ⟨aG, rfl, aI⟩ (aJ)
 ·
  intro aA wA hNA hRA hbsA hdpA
  have aH := (hbsA 5 rfl).trans (zU O rfl)
  refine zG (zC hNA rfl aH) ?_
  exact obN_end rfl rfl (grown_refl _ _)
 ·
  intro aA wA hNA hRA hbsA hdpA
  have aH : Sl aA 31 (ptr X 0) := hdpA 6 _ 31 zy rfl rfl
  refine op_nil (zC hNA rfl aH) ?_
  exact obN_end rfl rfl (grown_refl _ _)
 ·
  intro aA wA hNA hRA hbsA hdpA
  have aH : Sl aA 32 (ptr X 0) := hdpA 7 _ 32 zy rfl rfl
  refine zM fld164_3 (zC hNA rfl aH) ?_
  exact obN_end rfl rfl (grown_refl _ _)
 ·
  intro aA wA hNA hRA hbsA hdpA
  have aH : Sl aA 33 (ptr X 3) := hdpA 8 _ 33 zy rfl rfl
  refine zM fld162_0 (zC hNA rfl aH) ?_
  exact obN_end rfl rfl (grown_refl _ _)
 ·
  intro aA wA hNA hRA hbsA hdpA
  have hRA : aF.grownBy wA none := hRA
  have := hRA.size
  have ah := ah.keep0 hRA
  have aH : Sl aA 34 (ptr X 3) := hdpA 9 _ 34 zy rfl rfl
  clear hbsA hdpA
  refine zN one26 (zC hNA rfl aH) (ah.cell rfl) ?_
  exact obN_end rfl rfl (grown_refl _ _)
 intro aO aN aH aM aK aL aJ
 have aM := aM.trans R
 have aP := (aK 2 rfl).trans (zL O rfl T)
 have aQ := (aK 3 rfl).trans (zL O rfl S)
 have aR := (aK 4 rfl).trans (zU O rfl)
 have aS := (aK 6 rfl).trans (zU O rfl)
 have aT := (aK 16 rfl).trans (zL O rfl Q)
 obtain ⟨aG, aU, aI⟩ := aL 5 _ 30 rfl rfl
 have aI : Own aN aF.heap.size 169 2 aG D9.length (D9.flatMap cellsRd) := aI
 have aV : Sl aO 35 ae := aL 10 _ 35 rfl rfl
 clear aK aL
 have aJ : aF.grownBy aN none := aJ
 obtain ⟨hb, _⟩ := yE hb aJ
 have hA := hA.kz aJ
 have hC := hC.kz aJ
 have ah := ah.keep0 aJ
 have ak := all9 ak fun _ h => h.keep0 aJ
 have al := al.keep0 aJ
 refine split_end (from_seq (tl := [_, _, _, _, _, _, _]) zz zy rfl (zj ok72 (Clone_s T9.writes _ _ zx (al.rdw.mono (Nat.zero_le _) zx)) ⟨(zC aH rfl aV), trivial⟩ ?_))
 rintro aY aZ ⟨aW, aX⟩
 have aW := zQ aW
 obtain ⟨hb, _⟩ := yE hb aW
 have hk := (hk.keep0 aJ).keep0 aW
 have y := (y.keep0 aJ).keep0 aW
 have ah := ah.keep0 aW
 have ak := all9 ak fun _ h => h.keep0 aW
 have ac := (ac.keep0 aJ).keep0 aW
 have aI := aI.keep0 aW
 have aX := aX.mono (base' := aN.heap.size) zx
 refine zM fld164_2 (zC aH rfl aS) (zM fld160_0 (zA aH rfl) ?_)
 have aD := ac
 refine za (vs := [aG]) (cs' := [ad, (.int .u64 T9.stamp), aG, ae, (.bool T9.doomed)]) size158 (zA aH rfl) (zC aH rfl aU) aI.cl rfl (by simp only [yA, yB, yC, yD, aI.one]; try rfl) ac (zI rfl) rfl ?_
 intro a1 ac a0
 have := a0.size
 have hk := hk.keep a0 (sN hk aD)
 have y := y.keep a0 (sN y aD)
 have P := ((P.keep0 aJ).keep0 aW).keepB aD a0
 have hJ := ((hJ.keepG (zi aJ NoB) (fun h => h) (fun h => h)).keepG (zi aW NoB) (fun h => h) (fun h => h)).keepG (Gr.of a0) (fun q => by have := zE q; omega) (fun q => by have := zE q; omega)
 have ah := ah.keep a0 sB
 have ai := ((ai.keep0 aJ).keep0 aW).keepX aD a0 zz
 have ak := all9 ak fun _ h => h.keepX aD a0 zz
 have aI := aI.keepX aD a0 zz
 have aX := aX.keepX aD a0 zz
 have hb := below_step1 hb a0 hb.size zx
 refine zM fld164_3 (zC aH rfl aS) (zM fld162_0 (zA aH rfl) ?_)
 have aD := ac
 refine za (vs := [aY]) (cs' := [ad, (.int .u64 T9.stamp), aG, aY, (.bool T9.doomed)]) size26 (zA aH rfl) (zA aH rfl) aX.cl rfl (by simp only [yA, yB, yC, yD, aX.one]; try rfl) ac (zI rfl) rfl ?_
 intro a3 ac a2
 have := a2.size
 have hk := hk.keep a2 (sN hk aD)
 have y := y.keep a2 (sN y aD)
 have P := P.keepB aD a2
 have hC := ((hC.kz aW).keepG (Gr.of a0) (Dj.one aC)).keepG (Gr.of a2) (Dj.one aC)
 have ah := ah.keep a2 sB
 have ak := all9 ak fun _ h => h.keepX aD a2 zz
 have hb := below_step1 hb a2 hb.size zx
 refine zB (f _ _ (zH (zG (zC aH rfl aQ) (op_nil (zA aH rfl) (zM fld121_0 (zA aH rfl) (zN one119 (zA aH rfl) (y.cell rfl) (zG (zC aH rfl aR) ?_)))))))
 have a4 := P
 refine op_mapput (k := k9) (v := av) Try.underlying119 (Go.Gx.key_int Try.underlying3) (zA aH rfl) (zA aH rfl) (zC aH rfl aS) P ?_
 intro a6 a7 a5
 have := a5.size
 have hk := hk.keepM a4 a5
 have hA := (((hA.kz aW).keepG (Gr.of a0) (Dj.one aB)).keepG (Gr.of a2) (Dj.one aB)).keepG (Gr.of a5) (Dj.one t)
 have y := y.keepM a4 a5
 have hC := hC.keepG (Gr.of a5) (Dj.one (hC.notMap a4))
 have hJ := (hJ.keepG (Gr.of a2) (fun q => by have := zE q; omega) (fun q => by have := zE q; omega)).keepG (Gr.of a5) (fun q => by have := zE q; omega) (fun q => by have := zE q; omega)
 have ah := ah.keepM a4 a5
 have ai := (ai.keepX aD a2 zz).keepM a4 a5
 have ak := all9 ak fun _ h => h.keepM a4 a5
 have aI := (aI.keepX aD a2 zz).keepM a4 a5
 have aX := (aX.keepX aD a2 zz).keepM a4 a5
 have ac := ac.keepM a4 a5
 have hb := below_step1 hb a5 hb.size zx
 refine zB (blk_normal ?_)
 -- round 17T
 have hpn : ∀ x, PartT (⟨av, ad, aG, aY, D9⟩ : TC) x → w.heap.size ≤ x ∨ PartT (C.getD i9 default) x := fun x hx => by
   rw [hgC]
   rcases hx with hx | hx | hx | hx | ⟨q, hq, hx⟩
   · exact .inl (by have hx : x = av := hx; omega)
   · exact .inr (.inr (.inl hx))
   · exact .inl (by have h7 := (aI.lt x hx).1; omega)
   · exact .inl (by have h7 := (aX.lt x hx).1; omega)
   · exact .inr (.inr (.inr (.inr (.inr ⟨q, hq, hx⟩))))
 have hdn : Dj FC (PartT (⟨av, ad, aG, aY, D9⟩ : TC)) := FCin.apart (B := w.heap.size) (w0 := w) hFC hA a ag ab hDl (fun x hx => by
   rw [hgC]
   rcases hx with hx | hx | hx | hx | ⟨q, hq, hx⟩
   · exact .inl ⟨by have hx : x = av := hx; omega, fun h => by have h8 := hFCz _ h; have hx : x = av := hx; omega⟩
   · exact .inr (.inr (.inl hx))
   · exact .inl ⟨by have h7 := (aI.lt x hx).1; omega, fun h => by have h8 := hFCz _ h; have h7 := (aI.lt x hx).1; omega⟩
   · exact .inl ⟨by have h7 := (aX.lt x hx).1; omega, fun h => by have h8 := hFCz _ h; have h7 := (aX.lt x hx).1; omega⟩
   · exact .inr (.inr (.inr (.inr (.inr ⟨q, hq, hx⟩)))))
 exact zg _ aH aM ⟨(Dd ++ [i9]), (C2 ++ [(⟨av, ad, aG, aY, D9⟩ : TC)]), (fun x => FC x ∨ PartT (⟨av, ad, aG, aY, D9⟩ : TC) x), rfl, (zL aH rfl aP), (zL aH rfl aQ), (zL aH rfl aT), (by simp [hcl]), (hFC.step (by rw [hA.1]; exact ag) hpn), hb, zx, hk, hA, y, (by have h9 := a7; rw [show av = (⟨av, ad, aG, aY, D9⟩ : TC).p from rfl, esOf_put hnd hiM ab hDl hcl] at h9; exact h9), (by rw [pick_snoc hiM]; exact hC.snoc (show TxAt a6 base T9 (⟨av, ad, aG, aY, D9⟩ : TC) from ⟨(show base ≤ av by omega), ac, ai, aI.mono zx, ak, aX.mono zx, an⟩) hdn), hJ⟩ (by have := pick_lt hJ.rng.1 hJ.rng.2; simp; omega)

theorem LCopy_n {k : Nat} {w : World} (hk : Bx w k 121 [.map none]) : Ret Try.prog 67 #[(ptr k 0)] w (fun v' w' => Below w.heap.size w w' ∧ ∃ (c m2 : Nat), v' = ptr c 0 ∧ w.heap.size ≤ c ∧ w.heap.size ≤ m2 ∧ Bx w' c 121 [.map (some m2)] ∧ MapC (.int .i64) pv w' m2 []) := by
 have hi_k := hk.lt
 have hb := Below.refl w.heap.size w
 refine enter (N := 47) Try.func67 rfl rfl (by simp) fun a hN hd hA => ?_
 have b : a.tmps.getD 0 undef = (ptr k 0) := hA 0 (by simp)
 clear hA
 refine zF fun _ a => zH (zD rfl ?_)
 refine zB (a _ _ (zF fun _ a => zF fun _ d => zH (zG (zC hN rfl b) (op_peq_some ptrt93 (zA hN rfl) rfl (zB (d _ _ (wp_cond_false (zA hN rfl) (wp_skip (a _ _ (zF fun _ a => zH (op_mkmap (kv := (Value.int .i64)) (vv := pv) ?_)))))))))))
 intro h e l j f g
 obtain ⟨hb, _⟩ := yE hb g
 refine zf (pv := [(0, (Value.map (some e)))]) (v := (Value.agg #[(Value.map (some e))])) ⟨rfl, (zA hN rfl), trivial⟩ zy (op_box (cs := [(Value.map (some e))]) (zA hN rfl) rfl ?_)
 intro n j m o h l
 obtain ⟨hb, _⟩ := yE hb l
 have hk := (hk.keep0 g).keep0 l
 refine zD (zA hN rfl) (zB (a _ _ (zF fun _ a => zF fun _ d => zH (zG (zC hN rfl b) (op_nil (zA hN rfl) (zM fld121_0 (zA hN rfl) (zN one119 (zA hN rfl) (hk.cell rfl) (op_range_nil Try.underlying119 (zA hN rfl) ?_))))))))
 intro m g n o hI b
 obtain ⟨hb, _⟩ := yE hb b
 have hk := hk.keep0 b
 have f := (f.keep0 l).keep0 b
 have h := h.keep0 b
 refine zB (d _ _ (wp_block (loop_m (fun mz_ az_ w' => ∃ (b : Unit), mz_ = 0 ∧ (Sl az_ 2 (Value.pointer none)) ∧ (Sl az_ 3 (ptr j 0)) ∧ (Sl az_ 16 (ptr g 0)) ∧ (Below w.heap.size w w') ∧ (m.heap.size ≤ w'.heap.size) ∧ (Bx w' k 121 [(Value.map none)]) ∧ (MapC (.int .i64) pv w' e ([] : List (Int × Nat))) ∧ (Bx w' j 121 [(Value.map (some e))]) ∧ (It0 w' g)) _ hN hd ⟨(), rfl, (zU hN rfl), (zU hN rfl), (zU hN rfl), hb, (Nat.le_refl _), hk, f, h, hI⟩ ?_)))
 rintro _ p o g m ⟨b, rfl, q, n, l, hb, r, hk, f, h, hI⟩
 have := hb.size
 refine zF fun _ d => zH (op_next_nil (zC g rfl l) hI (zW (zA g rfl) rfl ?_))
 refine zB (d _ _ (zF fun _ d => wp_cond_false (zA g rfl) (wp_exit (then_exit (then_exit (blk_hit (a _ _ (zF fun _ a => zH (zG (zC g rfl n) (zD (zA g rfl) (zB (a _ _ (wp_ret (ret1 rfl m (zA g rfl) ⟨_, rfl, ?_⟩))))))))))))))
 exact ⟨hb, j, e, rfl, by omega, by omega, h, f⟩

end Go.Proofs.Ytmhdbphpmgjpcaa

namespace Go.Proofs.Ytmhdbphpmgjpcaa
open Go.Gx Go.RowKit
section
variable {w w' : World} {base k : Nat} {F G : Nat → Prop} {n s : Int} {M : TM} {lv : Value} {l : List UInt16}
theorem map_ne {K V : Type} {kv : K → Value} {vv : V → Value} {es : List (K × V)} {b t m : Nat} {cs : List Value} (B : Bx w b t cs) (M : MapC kv vv w m es) : b ≠ m := by
  obtain ⟨_, _, h2, _⟩ := M
  intro q; subst q; have := B.symm.trans h2; simp at this
def OldR (w : World) (base k : Nat) (F : Nat → Prop) : Prop := ∃ (mv : Value) (es : List (Int × Nat)), base ≤ k ∧ Bx w k 121 [mv] ∧ MapN w base mv es ∧ ∀ x, F x ↔ x = k ∨ mv = .map (some x)
theorem OldR.lt (h : OldR w base k F) : ∀ x, F x → base ≤ x ∧ x < w.heap.size := fun x hx => by
  obtain ⟨mv, es, h0, h1, h2, h3⟩ := h
  rcases (h3 x).1 hx with rfl | e
  · exact ⟨h0, h1.lt⟩
  · rcases h2 with ⟨e2, _⟩ | ⟨m, e2, hb, hM⟩
    · rw [e2] at e; cases e
    · rw [e2] at e; injection e with e; injection e with e; subst e; exact ⟨hb, hM.lt⟩
theorem OldR.keepG (h : OldR w base k F) (E : Gr w w' G) (hd : Dj F G) : OldR w' base k F := by
  obtain ⟨mv, es, h0, h1, h2, h3⟩ := h
  refine ⟨mv, es, h0, h1.keepG E (hd k ((h3 k).2 (.inl rfl))), ?_, h3⟩
  rcases h2 with ⟨rfl, e⟩ | ⟨m, rfl, hb, hM⟩
  · exact .inl ⟨rfl, e⟩
  · exact .inr ⟨m, rfl, hb, hM.keepG E (hd m ((h3 m).2 (.inr rfl)))⟩
theorem OldR.kz (h : OldR w base k F) (E9 : w.grownBy w' none) : OldR w' base k F := h.keepG (Gr.of0 E9 NoB) (fun _ _ h => h)
theorem EnterOld (hb : base ≤ w.heap.size) (h : OldR w base k F) :
    Ret Try.prog 54 #[ptr k 0, .int .i64 n, .slice none 0 0, .int .u64 s] w (fun v' w' => Gr w w' F ∧ ∃ v9, v' = .int .i64 v9 ∧ ∃ F', OldR w' base k F' ∧ NewF w.heap.size F F') := by
  have h' := h
  obtain ⟨mv, es, h0, h1, h2, h3⟩ := h'
  have hk : F k := (h3 k).2 (.inl rfl)
  rcases h2 with ⟨rfl, e⟩ | ⟨m, rfl, hbm, hM⟩
  · refine (Enter_nomap (l := []) (lo := 0) h1 (RdC.nil _ _ _ _) (Nat.zero_le _) (by decide)).mono fun v' w' q => ?_
    obtain ⟨E, hv, m, q1, nv, hm, _, hx, _, _, hM⟩ := q
    refine ⟨(Gr.of E).mono fun x _ hx => by rw [← Option.some.inj hx]; exact hk, _, hv, fun x => x = k ∨ Value.map (some m) = .map (some x), ⟨_, _, h0, hx, .inr ⟨m, rfl, by omega, hM⟩, fun x => Iff.rfl⟩, fun x hx => ?_⟩
    rcases hx with rfl | e
    · exact .inl hk
    · injection e with e; injection e with e; subst e; exact .inr hm
  · have hm : F m := (h3 m).2 (.inr rfl)
    cases hg : mget es n with
    | some p =>
      refine (Enter_hit (l := []) h1 hM hg).mono fun v' w' q => ?_
      have E0 := grown_of_below q.1
      exact ⟨Gr.of0 E0 F, _, q.2, F, h.keepG (Gr.of0 E0 NoB) (fun _ _ h => h), NewF.refl _ _⟩
    | none =>
      refine (Enter_miss (l := []) h1 hM hg (RdC.nil _ _ _ _) (by decide)).mono fun v' w' q => ?_
      obtain ⟨E, hv, q1, nv, _, _, _, hM'⟩ := q
      refine ⟨(Gr.of E).mono fun x _ hx => by rw [← Option.some.inj hx]; exact hm, _, hv, F, ⟨_, _, h0, h1.keepG (Gr.of E) (fun hh => ?_), .inr ⟨m, rfl, hbm, hM'⟩, h3⟩, NewF.refl _ _⟩
      exact map_ne h1 hM (Option.some.inj hh).symm
theorem LeaveOld (hb : base ≤ w.heap.size) (h : OldR w base k F) :
    Ret Try.prog 57 #[ptr k 0, .int .i64 n] w (fun v' w' => Gr w w' F ∧ ∃ v9, v' = .int .i64 v9 ∧ ∃ F', OldR w' base k F' ∧ NewF w.heap.size F F') := by
  have h' := h
  obtain ⟨mv, es, h0, h1, h2, h3⟩ := h'
  rcases h2 with ⟨rfl, e⟩ | ⟨m, rfl, hbm, hM⟩
  · refine (Leave_nomap h1).mono fun v' w' q => ?_
    have E0 := grown_of_below q.1
    exact ⟨Gr.of0 E0 F, _, q.2, F, h.keepG (Gr.of0 E0 NoB) (fun _ _ h => h), NewF.refl _ _⟩
  · have hm : F m := (h3 m).2 (.inr rfl)
    cases hg : mget es n with
    | none =>
      refine (Leave_miss h1 hM hg).mono fun v' w' q => ?_
      have E0 := grown_of_below q.1
      exact ⟨Gr.of0 E0 F, _, q.2, F, h.keepG (Gr.of0 E0 NoB) (fun _ _ h => h), NewF.refl _ _⟩
    | some p =>
      refine (Leave_hit h1 hM hg).mono fun v' w' q => ?_
      obtain ⟨E, hv, hM'⟩ := q
      refine ⟨(Gr.of E).mono fun x _ hx => by rw [← Option.some.inj hx]; exact hm, _, hv, F, ⟨_, _, h0, h1.keepG (Gr.of E) (fun hh => ?_), .inr ⟨m, rfl, hbm, hM'⟩, h3⟩, NewF.refl _ _⟩
      exact map_ne h1 hM (Option.some.inj hh).symm
theorem CopyQ (hb : base ≤ w.heap.size) (hS : MSm M) (hn : (M.map Prod.fst).Nodup) (h : LocksR w base k M F) :
    Ret Try.prog 67 #[ptr k 0] w (fun v' w' => Below w.heap.size w w' ∧ ∃ (c : Nat) (M2 : TM) (F2 F3 : Nat → Prop), v' = ptr c 0 ∧ M2.Perm M ∧ LocksR w' base c M2 F2 ∧ NewF w.heap.size F F2 ∧ OldR w' base k F3 ∧ NewF w.heap.size F F3 ∧ Dj F3 F2) := by
  obtain ⟨mv, C, F0, h0, h1, h2, hA, h3⟩ := h
  rcases h2 with ⟨rfl, e⟩ | ⟨m, rfl, hbm, hM⟩
  · have hM0 : M = [] := by
      have := congrArg List.length e
      rw [esOf_len hA.1] at this
      exact List.length_eq_zero_iff.1 this
    subst hM0
    refine (LCopy_n h1).mono fun v' w' q => ?_
    obtain ⟨E, c, m2, rfl, hc, hm2, hx, hM2⟩ := q
    have E0 := grown_of_below E
    refine ⟨E, c, [], _, _, rfl, .refl _, ⟨_, [], NoB, by omega, hx, .inr ⟨m2, rfl, by omega, hM2⟩, LkAll.nil _ _, fun x => Iff.rfl⟩, fun x hx => ?_, ⟨.map none, [], h0, h1.keepG (Gr.of0 E0 NoB) (fun h => h), .inl ⟨rfl, rfl⟩, fun x => Iff.rfl⟩, fun x hx => .inl ((h3 x).2 (hx.imp id .inl)), fun x hx hf => ?_⟩
    · rcases hx with rfl | e | e
      · exact .inr hc
      · injection e with e; injection e with e; subst e; exact .inr hm2
      · exact e.elim
    · have hlt := h1.lt
      rcases hx with rfl | e
      · rcases hf with e | e | e
        · omega
        · injection e with e; injection e with e; omega
        · exact e.elim
      · cases e
  · refine (LCopy_m hb h1 hM hA hS hn).mono fun v' w' q => ?_
    obtain ⟨E, c, m2, Dd, C2, FC, rfl, hc, hm2, hx, hM2, hC, hp, hF⟩ := q
    have E0 := grown_of_below E
    have hin : ∀ x, FC x → F0 x ∨ w.heap.size ≤ x := fun x hx => by
      rcases hF x hx with q | ⟨j, _, hjl, q⟩
      · exact .inr q
      · exact .inl ((hA.2.2.2 x).2 ⟨j, by rw [← hA.1]; exact hjl, q⟩)
    have h1' := h1.keepG (Gr.of0 E0 NoB) (fun h => h)
    have hM' := hM.keepG (Gr.of0 E0 NoB) (fun h => h)
    refine ⟨E, c, _, _, fun x => x = k ∨ Value.map (some m) = .map (some x), rfl, hp, ⟨_, C2, FC, by omega, hx, .inr ⟨m2, rfl, by omega, hM2⟩, hC, fun x => Iff.rfl⟩, fun x hx => ?_, ⟨_, _, h0, h1', .inr ⟨m, rfl, hbm, hM'⟩, fun x => Iff.rfl⟩, fun x hx => .inl ((h3 x).2 (hx.imp id .inl)), fun x hx hf => ?_⟩
    · rcases hx with rfl | e | e
      · exact .inr hc
      · injection e with e; injection e with e; subst e; exact .inr hm2
      · exact (hin x e).imp (fun q => (h3 x).2 (.inr (.inr q))) id
    · rcases hx with rfl | e
      · have hlt := h1.lt
        rcases hf with e | e | e
        · omega
        · injection e with e; injection e with e; omega
        · exact hC.notBx h1' (by decide) (by decide) (by decide) (by decide) e
      · injection e with e; injection e with e; subst e
        have hlt := hM.lt
        rcases hf with e | e | e
        · omega
        · injection e with e; injection e with e; omega
        · exact hC.notMap hM' e
end
end Go.Proofs.Ytmhdbphpmgjpcaa

namespace Go.Proofs.Ytmhdbphpmgjpcaa
open Go.Gx Go.RowKit
def TIn (i : Nat) (t : TX) : Prop := TOk t ∧ t.reads.length ≤ 8 * i ∧ t.writes.length ≤ i
def MIn (M : TM) (i : Nat) : Prop := M.length ≤ i ∧ (M.map Prod.fst).Nodup ∧ ∀ a ∈ M, (Lit.int .i64 a.1).wf = true ∧ TIn i a.2
section
variable {M : TM} {i j n9 : Nat} {n s : Int} {l : List UInt16} {t : TX} {Rs : List (List UInt8)} {x : List UInt8} {a : Int × TX}
theorem wf_i64 (h0 : -1000000 ≤ n) (h : n ≤ 1000000) : (Lit.int .i64 n).wf = true := by
  simp only [Lit.wf, IntKind.min, IntKind.max, IntKind.signed, IntKind.bits, Bool.and_eq_true, decide_eq_true_eq]; simp; omega
theorem TIn.mono (h : TIn i t) (hj : i ≤ j) : TIn j t := ⟨h.1, by have := h.2.1; omega, by have := h.2.2; omega⟩
theorem MIn.start : MIn [] 0 := ⟨Nat.le_refl _, List.nodup_nil, fun _ h => by cases h⟩
theorem MIn.mono (h : MIn M i) (hj : i ≤ j) : MIn M j := ⟨Nat.le_trans h.1 hj, h.2.1, fun a ha => ⟨(h.2.2 a ha).1, (h.2.2 a ha).2.mono hj⟩⟩
theorem MIn.ok (h : MIn M i) (hi : i ≤ 1000) : MOk M := ⟨Nat.le_trans h.1 hi, fun a ha => ⟨(h.2.2 a ha).1, (h.2.2 a ha).2.1⟩⟩
theorem MIn.sm (h : MIn M i) (hi : i ≤ 1000) : MSm M := fun a ha => ⟨by have := (h.2.2 a ha).2.2.1; omega, by have := (h.2.2 a ha).2.2.2; omega⟩
theorem mput_len {K V : Type} [DecidableEq K] {es : List (K × V)} {k : K} {v : V} : (mput es k v).length ≤ es.length + 1 := by
  have h := congrArg List.length (mput_keys (es := es) (k := k) (v := v))
  rw [List.length_map] at h
  split at h
  · rw [List.length_map] at h; omega
  · rw [List.length_append, List.length_map] at h; simp at h; omega
theorem MIn.put (h : MIn M i) (hn : (Lit.int .i64 n).wf = true) (ht : TIn (i + 1) t) : MIn (mput M n t) (i + 1) := by
  refine ⟨Nat.le_trans mput_len (by have := h.1; omega), nodup_mput h.2.1, fun a ha => ?_⟩
  rcases (mem_mput h.2.1).1 ha with ⟨rfl, rfl⟩ | ⟨_, ha⟩
  · exact ⟨hn, ht⟩
  · exact ⟨(h.2.2 _ ha).1, (h.2.2 _ ha).2.mono (Nat.le_succ _)⟩
theorem MIn.del (h : MIn M i) : MIn (mdel M n) (i + 1) :=
  ⟨Nat.le_trans (mdel_keys_sub (es := M)).length_le (Nat.le_succ_of_le h.1), nodup_mdel h.2.1, fun a ha => ⟨(h.2.2 a (mdel_keys_sub.subset ha)).1, (h.2.2 a (mdel_keys_sub.subset ha)).2.mono (Nat.le_succ _)⟩⟩
theorem newT_in (hl : l.length ≤ 8) : TIn i (newT l s) := ⟨⟨hl, fun _ h => by cases h⟩, Nat.zero_le _, Nat.zero_le _⟩
theorem MIn.enter (h : MIn M i) (hn : (Lit.int .i64 n).wf = true) (hl : l.length ≤ 8) : MIn (enterM M n l s) (i + 1) := by
  unfold enterM; split
  · exact h.mono (Nat.le_succ _)
  · exact h.put hn (newT_in hl)
theorem MIn.get (h : MIn M i) (hg : mget M n = some t) : (Lit.int .i64 n).wf = true ∧ TIn i t := h.2.2 _ (mget_mem hg)
theorem MIn.move (h : MIn M i) (hl : l.length ≤ 8) : MIn (moveM M n l s) (i + 1) := by
  unfold moveM
  cases hg : mget M n with
  | none => exact h.mono (Nat.le_succ _)
  | some t =>
    simp only []
    split
    · exact h.mono (Nat.le_succ _)
    · have q := h.get hg
      exact h.put q.1 ⟨⟨hl, q.2.1.2⟩, by have := q.2.2.1; show t.reads.length ≤ _; omega, by have := q.2.2.2; show t.writes.length ≤ _; omega⟩
theorem addW_len {W : List (List UInt8)} : (addW W x).length ≤ W.length + 1 := by unfold addW; split <;> simp
theorem askT_in {o : Int} (h : TIn i t) (hR : Rs.length ≤ 8) : TIn (i + 1) (askT t Rs x o) := by
  unfold askT; split
  · have q := gotR_ok h.1.1 Rs t rfl h.1.2
    refine ⟨⟨h.1.1, q.1⟩, ?_, ?_⟩
    · have := h.2.1; have := q.2; show (gotR t Rs).length ≤ _; omega
    · show (gotW t x).length ≤ _
      unfold gotW; have := h.2.2
      split
      · omega
      · have := addW_len (W := t.writes) (x := x); omega
  · exact h.mono (Nat.le_succ _)
theorem MIn.ask (h : MIn M i) (hR : Rs.length ≤ 8) : MIn (askM M n Rs x) (i + 1) := by
  unfold askM
  cases hg : mget M n with
  | none => exact h.mono (Nat.le_succ _)
  | some t => exact h.put (h.get hg).1 (askT_in (h.get hg).2 hR)
theorem doomA_in {T : TX} {xs : List Int} (h : (Lit.int .i64 a.1).wf = true ∧ TIn i a.2) : (Lit.int .i64 (doomA M T xs a).1).wf = true ∧ TIn i (doomA M T xs a).2 := by
  unfold doomA; split
  · exact ⟨h.1, h.2⟩
  · exact h
theorem MIn.doom {T : TX} {xs : List Int} (h : MIn M i) : MIn (doomL M T xs) i :=
  ⟨by rw [doomL_len]; exact h.1, by rw [doomL_keys]; exact h.2.1, fun a ha => by obtain ⟨b, hb, rfl⟩ := List.mem_map.1 ha; exact doomA_in (h.2.2 b hb)⟩
theorem MIn.com (h : MIn M i) : MIn (comM M n) (i + 1) := by
  unfold comM
  cases hg : mget M n with
  | none => exact h.mono (Nat.le_succ _)
  | some t => exact h.doom.del
theorem MIn.at (h : MIn M i) (ha : a ∈ M) : txAt M a.1 = a.2 := by unfold txAt; rw [mget_of_mem h.2.1 (show (a.1, a.2) ∈ M from ha)]; rfl
/-! those that are there: 0, 1, and so on -/
def Keys0 (M : TM) (n9 : Nat) : Prop := M.map Prod.fst = (List.range n9).map fun j : Nat => (j : Int)
theorem Keys0.mem (h : Keys0 M n9) : n ∈ M.map Prod.fst ↔ ∃ j : Nat, j < n9 ∧ n = (j : Int) := by
  rw [h, List.mem_map]
  exact ⟨fun ⟨j, hj, e⟩ => ⟨j, List.mem_range.1 hj, e.symm⟩, fun ⟨j, hj, e⟩ => ⟨j, List.mem_range.2 hj, e.symm⟩⟩
theorem Keys0.miss (h : Keys0 M n9) : mget M (n9 : Int) = none := mget_none.2 fun hm => by obtain ⟨j, hj, e⟩ := h.mem.1 hm; omega
theorem Keys0.hit (h : Keys0 M n9) (hj : j < n9) : ∃ t, mget M (j : Int) = some t := mget_key (h.mem.2 ⟨j, hj, rfl⟩)
theorem Keys0.enter (h : Keys0 M n9) : enterE M (n9 : Int) = 0 ∧ Keys0 (enterM M (n9 : Int) l s) (n9 + 1) ∧ ∀ a ∈ enterM M (n9 : Int) l s, a ∈ M ∨ a = ((n9 : Int), newT l s) := by
  have hl : mlook M (n9 : Int) = none := by
    have := h.miss
    cases hq : mlook M (n9 : Int) with
    | none => rfl
    | some r => unfold mget at this; rw [hq] at this; cases this
  have e : enterM M (n9 : Int) l s = M ++ [((n9 : Int), newT l s)] := by unfold enterM; rw [h.miss]; show mput M _ _ = _; unfold mput; rw [hl]
  refine ⟨by unfold enterE; rw [h.miss]; rfl, ?_, fun a ha => ?_⟩
  · unfold Keys0 at h ⊢; rw [e, List.map_append, h, List.range_succ, List.map_append]; rfl
  · rw [e] at ha; rcases List.mem_append.1 ha with ha | ha
    · exact .inl ha
    · exact .inr (List.mem_singleton.1 ha)
theorem Keys0.ask (h : Keys0 M n9) (hn : (M.map Prod.fst).Nodup) (hj : j < n9) : askE M (j : Int) = 0 ∧ Keys0 (askM M (j : Int) Rs x) n9 ∧ ∀ a ∈ askM M (j : Int) Rs x, (a ∈ M ∨ ∃ t o, ((j : Int), t) ∈ M ∧ a = ((j : Int), askT t Rs x o)) := by
  obtain ⟨t, ht⟩ := h.hit hj
  have hm := mget_mem ht
  have e : askM M (j : Int) Rs x = mput M (j : Int) (askT t Rs x (ansO M (j : Int) t Rs x)) := by unfold askM; rw [ht]
  refine ⟨by unfold askE; rw [ht]; rfl, ?_, fun a ha => ?_⟩
  · unfold Keys0; rw [e, mput_keys, if_pos (List.mem_map.2 ⟨_, hm, rfl⟩)]; exact h
  · rw [e] at ha
    rcases (mem_mput (a := a.1) (u := a.2) hn).1 ha with ⟨e1, e2⟩ | ⟨_, ha⟩
    · exact .inr ⟨t, _, hm, Prod.ext e1 e2⟩
    · exact .inl ha
theorem ans_one (h : ∀ a ∈ M, othB M n (sameQ t) a.1 = false ∨ stB M t Rs x a.1 = false) : ansO M n t Rs x = 1 := by
  have h2 : (M.any fun a => othB M n (sameQ t) a.1 && stB M t Rs x a.1) = false := List.any_eq_false.2 fun a ha => by
    rcases h a ha with e | e <;> rw [e] <;> simp
  have h3 : (M.any fun a => othB M n (sameQ t) a.1 && dieB M t Rs x a.1) = false := List.any_eq_false.2 fun a ha => by
    unfold dieB
    rcases h a ha with e | e <;> rw [e] <;> simp
  unfold ansO; rw [h2, h3]; rfl
theorem askV_of (ht : mget M n = some t) : askV M n Rs x = ansO M n t Rs x := by unfold askV; rw [ht]
def ShK (M : TM) (n9 i : Nat) : Prop := MIn M (n9 + i) ∧ Keys0 M n9 ∧ ∀ a ∈ M, a.2.writes = []
theorem ShK.start : ShK [] 0 0 := ⟨MIn.start, rfl, fun _ h => by cases h⟩
theorem ShK.enter (h : ShK M n9 0) (hn : n9 ≤ 100) (hl : l.length ≤ 8) : enterE M (n9 : Int) = 0 ∧ ShK (enterM M (n9 : Int) l s) (n9 + 1) 0 := by
  have q := h.2.1.enter (l := l) (s := s)
  refine ⟨q.1, (h.1.enter (wf_i64 (by omega) (by omega)) hl).mono (by omega), q.2.1, fun a ha => ?_⟩
  rcases q.2.2 a ha with ha | rfl
  · exact h.2.2 a ha
  · rfl
theorem ShK.ask (h : ShK M n9 i) (hj : j < n9) (hR : Rs.length ≤ 8) : askV M (j : Int) Rs [] = 1 ∧ askE M (j : Int) = 0 ∧ ShK (askM M (j : Int) Rs []) n9 (i + 1) := by
  obtain ⟨t, ht⟩ := h.2.1.hit hj
  have q := h.2.1.ask (Rs := Rs) (x := []) h.1.2.1 hj
  refine ⟨(askV_of ht).trans (ans_one fun a ha => .inr ?_), q.1, (h.1.ask hR).mono (by omega), q.2.1, fun a ha => ?_⟩
  · unfold stB standB
    rw [h.1.at ha, h.2.2 a ha]
    have : Rs.any (writB []) = false := List.any_eq_false.2 fun r _ => by simp [writB]
    rw [this]; rfl
  · rcases q.2.2 a ha with ha | ⟨t, o, ht, rfl⟩
    · exact h.2.2 a ha
    · have := h.2.2 _ ht
      unfold askT; split
      · exact this
      · exact this
def ShW (Ls : Nat → List UInt16) (M : TM) (n9 i : Nat) : Prop := MIn M (n9 + i) ∧ Keys0 M n9 ∧ ∀ a ∈ M, a.2.label = Ls a.1.toNat
theorem ShW.start {Ls : Nat → List UInt16} : ShW Ls [] 0 0 := ⟨MIn.start, rfl, fun _ h => by cases h⟩
theorem ShW.enter {Ls : Nat → List UInt16} (h : ShW Ls M n9 0) (hn : n9 ≤ 100) (hl : (Ls n9).length ≤ 8) : enterE M (n9 : Int) = 0 ∧ ShW Ls (enterM M (n9 : Int) (Ls n9) s) (n9 + 1) 0 := by
  have q := h.2.1.enter (l := Ls n9) (s := s)
  refine ⟨q.1, (h.1.enter (wf_i64 (by omega) (by omega)) hl).mono (by omega), q.2.1, fun a ha => ?_⟩
  rcases q.2.2 a ha with ha | rfl
  · exact h.2.2 a ha
  · rfl
theorem ShW.ask {Ls : Nat → List UInt16} (h : ShW Ls M n9 i) (hne : ∀ a b, a < b → b < n9 → Ls a ≠ Ls b) (hj : j < n9) (hR : Rs.length ≤ 8) : askV M (j : Int) Rs x = 1 ∧ askE M (j : Int) = 0 ∧ ShW Ls (askM M (j : Int) Rs x) n9 (i + 1) := by
  obtain ⟨t, ht⟩ := h.2.1.hit hj
  have q := h.2.1.ask (Rs := Rs) (x := x) h.1.2.1 hj
  have hlt : t.label = Ls j := h.2.2 _ (mget_mem ht)
  refine ⟨(askV_of ht).trans (ans_one fun a ha => .inl ?_), q.1, (h.1.ask hR).mono (by omega), q.2.1, fun a ha => ?_⟩
  · unfold othB sameQ
    rw [h.1.at ha, h.2.2 a ha, hlt]
    obtain ⟨b, hb, e⟩ := h.2.1.mem.1 (List.mem_map.2 ⟨a, ha, rfl⟩)
    rw [e]
    by_cases hbj : b = j
    · subst hbj; simp
    · have : Ls b ≠ Ls j := by
        rcases Nat.lt_or_gt_of_ne hbj with hh | hh
        · exact hne _ _ hh hj
        · exact fun e => hne _ _ hh hb e.symm
      simp [this]
  · rcases q.2.2 a ha with ha | ⟨t, o, ht, rfl⟩
    · exact h.2.2 a ha
    · have := h.2.2 _ ht
      unfold askT; split
      · exact this
      · exact this
end
end Go.Proofs.Ytmhdbphpmgjpcaa

namespace Go.Proofs.Ytmhdbphpmgjpcaa
open Go.Gx Go.RowKit
abbrev OpT := Int × Int × (Value × List UInt16) × UInt64 × (Value × List (List UInt8)) × List UInt8
def opK (o : OpT) : Int := o.1
def opN (o : OpT) : Int := o.2.1
def opLv (o : OpT) : Value := o.2.2.1.1
def opL (o : OpT) : List UInt16 := o.2.2.1.2
def opS (o : OpT) : UInt64 := o.2.2.2.1
def opRv (o : OpT) : Value := o.2.2.2.2.1.1
def opR (o : OpT) : List (List UInt8) := o.2.2.2.2.1.2
def opW (o : OpT) : List UInt8 := o.2.2.2.2.2
def dOp : OpT := (0, 0, (.slice none 0 0, []), 0, (.slice none 0 0, []), [])
def cellsOp (o : OpT) : List Value := [.int .i64 (opK o), .int .i64 (opN o), opLv o, .int .u64 ((opS o).toNat : Int), opRv o, .string (bs (opW o))]
theorem el_op {L : List OpT} {e : Int} {i : Nat} (he : e = (i : Int)) (h : i < L.length) : ∀ j u, (cellsOp (L.getD i dOp))[j]? = some u → (L.flatMap cellsOp)[e.toNat * 6 + j]? = some u :=
  Go.Gx.el_flat (f := cellsOp) (d := dOp) (by decide) (fun _ _ => rfl) he h
def ligR (R : List (List UInt8)) : Bool := R.all fun r => decide (r.length ≤ 20)
def lightB (o : OpT) : Bool := mayL (opL o) && decide ((opR o).length ≤ 8) && decide ((opW o).length ≤ 20) && ligR (opR o)
theorem lightB_ok {o : OpT} (h : lightB o = true) : mayL (opL o) = true ∧ (opR o).length ≤ 8 ∧ (opW o).length ≤ 20 ∧ ∀ r ∈ opR o, r.length ≤ 20 := by
  unfold lightB ligR at h
  simp only [Bool.and_eq_true, decide_eq_true_eq, List.all_eq_true] at h
  exact ⟨h.1.1.1, h.1.1.2, h.1.2, h.2⟩
theorem tmod_lt {n : Int} {k : Int} (hk : 0 < k) : -k < n.tmod k ∧ n.tmod k < k := by
  have h1 := Int.tmod_lt_of_pos n hk
  have h2 : -k < n.tmod k := by
    have h3 := Int.tmod_lt_of_pos (-n) hk
    rw [Int.neg_tmod] at h3; omega
  exact ⟨h2, h1⟩
def tix (k : Nat) (n : Int) : Nat := ((n.tmod k + k).tmod k).toNat
theorem tix_eq {k : Nat} (hk : 0 < k) (n : Int) : (n.tmod k + k).tmod k = ((tix k n : Nat) : Int) := by
  have h := tmod_lt (n := n) (k := (k : Int)) (by omega)
  have h2 : 0 ≤ (n.tmod k + k).tmod k := Int.tmod_nonneg _ (by omega)
  unfold tix; omega
theorem tix_lt {k : Nat} (hk : 0 < k) (n : Int) : tix k n < k := by
  have h2 := tmod_lt (n := n.tmod k + k) (k := (k : Int)) (by omega)
  have := tix_eq hk n; omega
def opLab (o : OpT) : Value × List UInt16 := (opLv o, opL o)
def opRds (o : OpT) : Value × List (List UInt8) := (opRv o, opR o)
theorem lightB_t {o : OpT} (h : mayL (opL o) = true ∧ (opR o).length ≤ 8 ∧ (opW o).length ≤ 20 ∧ ∀ r ∈ opR o, r.length ≤ 20) : lightB o = true := by
  unfold lightB ligR
  simp only [Bool.and_eq_true, decide_eq_true_eq, List.all_eq_true]
  exact ⟨⟨⟨h.1, h.2.1⟩, h.2.2.1⟩, h.2.2.2⟩
theorem lightB_f {o : OpT} (h : ¬ (mayL (opL o) = true ∧ (opR o).length ≤ 8 ∧ (opW o).length ≤ 20 ∧ ∀ r ∈ opR o, r.length ≤ 20)) : lightB o = false := by
  cases hq : lightB o with
  | false => rfl
  | true => exact absurd (lightB_ok hq) h
theorem le_upto {R : List (List UInt8)} {i m : Nat} (h : ∀ j, j < i → (R.getD j []).length ≤ m) (hi : (R.getD i []).length ≤ m) : ∀ j, j < i + 1 → (R.getD j []).length ≤ m := fun j hj => by
  by_cases hb : j < i
  · exact h j hb
  · obtain rfl : j = i := by omega
    exact hi
theorem mem_getD {α : Type} {l : List α} {x d : α} (h : x ∈ l) : ∃ j, j < l.length ∧ l.getD j d = x := by
  obtain ⟨j, hj, rfl⟩ := List.getElem_of_mem h
  exact ⟨j, hj, by simp [List.getD_eq_getElem?_getD, hj]⟩
/-! at one label -/
def eldB (IN : List Bool) (ST : List Nat) (t j : Nat) : Bool := (List.range j).all fun q => !(decide (q ≠ t) && IN.getD q false) || decide (ST.getD t 0 < ST.getD q 0)
def aloB (IN : List Bool) (t j : Nat) : Bool := (List.range j).all fun q => !(decide (q ≠ t) && IN.getD q false)
section
variable {IN IN2 : List Bool} {ST ST2 : List Nat} {M : TM} {n t j : Nat} {s : Int} {R : List (List UInt8)} {x : List UInt8}
def RInv (IN : List Bool) (ST : List Nat) (M : TM) (n : Nat) : Prop := IN.length = 8 ∧ ST.length = 8 ∧ MIn M n ∧ (∀ q : Nat, q < 8 → (mget M (q : Int)).isSome = IN.getD q false) ∧ ∀ a ∈ M, ∃ q : Nat, q < 8 ∧ a.1 = (q : Int) ∧ a.2.label = [] ∧ a.2.stamp = ((ST.getD q 0 : Nat) : Int)
theorem RInv.start : RInv (List.replicate 8 false) (List.replicate 8 0) [] 0 := ⟨rfl, rfl, MIn.start, fun q hq => by
  have : (List.replicate 8 false).getD q false = false := (by decide : ∀ q, q < 8 → (List.replicate 8 false).getD q false = false) q hq
  rw [this]; rfl, fun _ h => by cases h⟩
theorem RInv.mono {m : Nat} (h : RInv IN ST M n) (hm : n ≤ m) : RInv IN ST M m := ⟨h.1, h.2.1, h.2.2.1.mono hm, h.2.2.2⟩
theorem RInv.enter (h : RInv IN ST M n) (ht : t < 8) (hI : IN.getD t false = false) (hS : ST2.length = 8 ∧ ∀ q, q ≠ t → ST2.getD q 0 = ST.getD q 0) (hs : s = ((ST2.getD t 0 : Nat) : Int)) : enterE M (t : Int) = 0 ∧ RInv (IN.set t true) ST2 (enterM M (t : Int) [] s) (n + 1) := by
  obtain ⟨h1, h2, h3, h4, h5⟩ := h
  have hg : mget M (t : Int) = none := by
    have := h4 t ht; rw [hI] at this
    cases hq : mget M (t : Int) with
    | none => rfl
    | some v => rw [hq] at this; cases this
  have e : enterM M (t : Int) [] s = mput M (t : Int) (newT [] s) := by unfold enterM; rw [hg]; rfl
  refine ⟨by unfold enterE; rw [hg]; rfl, by simp [h1], hS.1, h3.enter (wf_i64 (by omega) (by omega)) (by decide), fun q hq => ?_, fun a ha => ?_⟩
  · rw [e, mget_mput h3.2.1, getD_set (by omega)]
    by_cases hqt : q = t
    · subst hqt; rw [if_pos rfl, if_pos rfl]; rfl
    · rw [if_neg (by omega), if_neg hqt]; exact h4 q hq
  · rw [e] at ha
    rcases (mem_mput (a := a.1) (u := a.2) h3.2.1).1 ha with ⟨e1, e2⟩ | ⟨hne, ha⟩
    · exact ⟨t, ht, e1, by rw [e2]; rfl, by rw [e2]; exact hs⟩
    · obtain ⟨q, hq, q1, q2, q3⟩ := h5 _ ha
      have q1' : a.1 = (q : Int) := q1
      exact ⟨q, hq, q1, q2, by rw [hS.2 q (fun e => hne (by rw [q1', e]))]; exact q3⟩
theorem RInv.get (h : RInv IN ST M n) (ht : t < 8) (hI : IN.getD t false = true) : ∃ T, mget M (t : Int) = some T ∧ T.label = [] ∧ T.stamp = ((ST.getD t 0 : Nat) : Int) := by
  have := h.2.2.2.1 t ht
  rw [hI] at this
  obtain ⟨T, hT⟩ := Option.isSome_iff_exists.1 this
  obtain ⟨q, hq, q1, q2, q3⟩ := h.2.2.2.2 _ (mget_mem hT)
  have q1' : (t : Int) = (q : Int) := q1
  obtain rfl : q = t := by omega
  exact ⟨T, hT, q2, q3⟩
theorem othB_in (h : RInv IN ST M n) {a : Int × TX} {T : TX} (ha : a ∈ M) (ho : othB M (t : Int) (sameQ T) a.1 = true) : ∃ q : Nat, q < 8 ∧ a.1 = (q : Int) ∧ q ≠ t ∧ IN.getD q false = true ∧ (txAt M a.1).stamp = ((ST.getD q 0 : Nat) : Int) := by
  obtain ⟨q, hq, q1, q2, q3⟩ := h.2.2.2.2 a ha
  unfold othB at ho
  simp only [Bool.and_eq_true, decide_eq_true_eq] at ho
  refine ⟨q, hq, q1, fun e => ho.1 (by rw [q1, e]), ?_, by rw [h.2.2.1.at ha]; exact q3⟩
  have := h.2.2.2.1 q hq
  rw [← q1, mget_of_mem h.2.2.1.2.1 (show (a.1, a.2) ∈ M from ha)] at this
  exact this.symm
theorem RInv.ask (h : RInv IN ST M n) (ht : t < 8) (hI : IN.getD t false = true) (hR : R.length ≤ 8) : askE M (t : Int) = 0 ∧ RInv IN ST (askM M (t : Int) R x) (n + 1) ∧ (eldB IN ST t 8 = true → askV M (t : Int) R x ≠ 3) ∧ (aloB IN t 8 = true → askV M (t : Int) R x = 1) := by
  obtain ⟨T, hT, hl, hs⟩ := h.get ht hI
  obtain ⟨h1, h2, h3, h4, h5⟩ := id h
  have e : askM M (t : Int) R x = mput M (t : Int) (askT T R x (ansO M (t : Int) T R x)) := by unfold askM; rw [hT]
  have hask : ∀ o, (askT T R x o).label = T.label ∧ (askT T R x o).stamp = T.stamp := fun o => by unfold askT; split <;> exact ⟨rfl, rfl⟩
  refine ⟨by unfold askE; rw [hT]; rfl, ⟨h1, h2, h3.ask hR, fun q hq => ?_, fun a ha => ?_⟩, fun he => ?_, fun ha => ?_⟩
  · rw [e, mget_mput h3.2.1]
    by_cases hqt : (q : Int) = (t : Int)
    · obtain rfl : q = t := by omega
      rw [if_pos rfl, hI]; rfl
    · rw [if_neg hqt]; exact h4 q hq
  · rw [e] at ha
    rcases (mem_mput (a := a.1) (u := a.2) h3.2.1).1 ha with ⟨e1, e2⟩ | ⟨hne, ha⟩
    · exact ⟨t, ht, e1, by rw [e2, (hask _).1]; exact hl, by rw [e2, (hask _).2]; exact hs⟩
    · exact h5 _ ha
  · rw [askV_of hT]
    unfold ansO
    have : (M.any fun a => othB M (t : Int) (sameQ T) a.1 && dieB M T R x a.1) = false := List.any_eq_false.2 fun a ha => by
      intro hh
      rw [Bool.and_eq_true] at hh
      obtain ⟨q, hq, q1, q2, q3, q4⟩ := othB_in h ha hh.1
      have hd := hh.2
      unfold dieB at hd
      simp only [Bool.and_eq_true, decide_eq_true_eq] at hd
      have hle := hd.2
      rw [q4, hs] at hle
      unfold eldB at he
      have := List.all_eq_true.1 he q (List.mem_range.2 hq)
      rw [q3, decide_eq_true q2, Bool.true_and, Bool.not_true, Bool.false_or, decide_eq_true_eq] at this
      omega
    rw [this]
    simp only [Bool.false_eq_true, if_false]
    split <;> decide
  · rw [askV_of hT]
    refine ans_one fun a hm => .inl ?_
    cases ho : othB M (t : Int) (sameQ T) a.1 with
    | false => rfl
    | true =>
      obtain ⟨q, hq, q1, q2, q3, q4⟩ := othB_in h hm ho
      unfold aloB at ha
      have := List.all_eq_true.1 ha q (List.mem_range.2 hq)
      rw [q3, decide_eq_true q2] at this
      simp at this
theorem RInv.leave (h : RInv IN ST M n) (ht : t < 8) (hI : IN.getD t false = true) : leaveE M (t : Int) = 0 ∧ RInv (IN.set t false) ST (mdel M (t : Int)) (n + 1) := by
  obtain ⟨T, hT, hl, hs⟩ := h.get ht hI
  obtain ⟨h1, h2, h3, h4, h5⟩ := h
  refine ⟨by unfold leaveE; rw [hT]; rfl, by simp [h1], h2, h3.del, fun q hq => ?_, fun a ha => ?_⟩
  · rw [mget_mdel h3.2.1, getD_set (by omega)]
    by_cases hqt : q = t
    · subst hqt; rw [if_pos rfl, if_pos rfl]; rfl
    · rw [if_neg (by omega), if_neg hqt]; exact h4 q hq
  · exact h5 _ (mdel_keys_sub.subset ha)
end
end Go.Proofs.Ytmhdbphpmgjpcaa

namespace Go.Proofs.Ytmhdbphpmgjpcaa
open Go.Gx Go.RowKit
theorem flows_iff {l m : Lb} : flowsL l m = true ↔ ∀ x ∈ l, x ∈ m := by simp [flowsL, inL]
end Go.Proofs.Ytmhdbphpmgjpcaa
