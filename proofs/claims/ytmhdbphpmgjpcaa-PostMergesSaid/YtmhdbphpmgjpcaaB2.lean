/- Small laws for walks, the sixteenth part: a region whose order is open, in which one's own list is read, and then written in a chain. -/
import Derived.Lib.SliceRun
import Derived.Lib.AppendZeros
import Derived.StillTail
import Derived.Conc.LoneSelect
import Derived.Test.YtmhdbphpmgjpcaaB1
namespace Go.Gx
open Go.RowKit
section
variable {P : Program} {ol : List Oper} {Q : Exit → Act → World → Prop} {Φ : Nat → Value → World → Prop} {C : Nat → Value → World → Prop} {ch : Chain} {R : World → World → Prop} {a0 : Act} {N : Nat}
def ObM (P : Program) (ol : List Oper) (Φ : Nat → Value → World → Prop) (C : Nat → Value → World → Prop) (ch : Chain) (a0 : Act) (N : Nat) (w0 : World) (R : World → World → Prop) (i : Nat) (o : Oper) : Prop :=
  ∀ (a : Act) (w : World) (c : Nat), a.tmps.size = N → R w0 w → c ≤ ch.ops.length → (∀ m k, ch.ops[m]? = some k → depB ol k i = true → c ≤ m) → C c (a.tmps.getD (ch.slot c) undef) w →
    (∀ t, safeB ol i t = true → a.tmps.getD t undef = a0.tmps.getD t undef) → (∀ j oj d, depB ol i j = true → ol[j]? = some oj → oj.dst = some d → Φ j (a.tmps.getD d undef) w) →
    wpList P ol.toArray (fun e a' w' => e = .normal ∧ (∃ d v, o.dst = some d ∧ a' = putsL a [(d, v)] ∧ Φ i v w') ∧ w.grownBy w' none) [o] (putsL a []) w
theorem region_mid_steps (hlex : lexB' ol = true) (hdn : dstNB ol N = true) (hdst : dstsB ol = true) (hch : ch.okB ol = true) (w0 : World)
    (hRt : ∀ w1 w2 w3, R w1 w2 → R w2 w3 → R w1 w3) (hR0 : ∀ w1 w2, w1.grownBy w2 none → R w1 w2)
    (hΦ : ∀ j u w1 w2, R w1 w2 → Φ j u w1 → Φ j u w2) (hC : ∀ c u w1 w2, w1.grownBy w2 none → C c u w1 → C c u w2)
    (obN : ∀ i o, ol[i]? = some o → ch.has i = false → ObM P ol Φ C ch a0 N w0 R i o) (obC : ∀ c i o, ch.ops[c]? = some i → ol[i]? = some o → ObC P ol Φ C ch a0 N w0 R c i o)
    (fin : ∀ a w, RInv ol Φ C ch a0 N w0 R (Array.replicate ol.length true) ch.ops.length a w → Q .normal a w) :
    ∀ (fuel : Nat) (listed : Array Bool) (c : Nat) (a : Act) (w : World), RInv ol Φ C ch a0 N w0 R listed c a w → (List.range ol.length).countP (fun i => !listed.getD i true) ≤ fuel → wpAny P .any ol.toArray Q fuel listed a w := by
  have hch' := hch
  simp only [Chain.okB, Bool.and_eq_true] at hch'
  obtain ⟨⟨⟨hc1, hc2⟩, hc3⟩, hc4⟩ := hch'
  have done : ∀ (listed : Array Bool) (c : Nat) (a : Act) (w : World), RInv ol Φ C ch a0 N w0 R listed c a w → Region.ready .any ol.toArray listed = [] → Q .normal a w := by
    intro listed c a w I hr
    have hall : ∀ i, i < ol.length → listed.getD i true = true := by
      intro i
      induction i using Nat.strongRecOn with
      | _ i ih =>
        intro hi
        by_cases hq : listed.getD i true = true
        · exact hq
        · exfalso
          have hm : i ∈ Region.ready .any ol.toArray listed := by
            rw [mem_ready]
            refine ⟨by simpa using hq, ol[i], by simp [hi], fun e he hb => ?_⟩
            have h1 := List.all_eq_true.1 hlex i (by simp [hi])
            simp only [List.getElem?_eq_getElem hi, Array.all_eq_true_iff_forall_mem, Bool.or_eq_true, Bool.not_eq_true', Nat.blt_eq] at h1
            have h2 := (h1 e he).resolve_left (by simp [hb])
            exact getD_true_lt (ih e.on h2 (by omega)) (by rw [I.lsize]; omega)
          rw [hr] at hm
          cases hm
    have hl : listed = Array.replicate ol.length true := by
      apply Array.ext
      · simp [I.lsize]
      · intro i h1 h2
        have := hall i (by simpa using h2)
        simp [Array.getD_eq_getD_getElem?, h1] at this
        simp [this]
    have hcc : c = ch.ops.length := by
      rcases Nat.lt_or_ge c ch.ops.length with h | h
      · exfalso
        have h1 := (I.chain c ch.ops[c] (by simp [h])).1 (hall _ (by
          have := List.all_eq_true.1 hc3 ch.ops[c] (List.getElem_mem h)
          simpa [Nat.blt_eq] using this))
        omega
      · exact Nat.le_antisymm I.cle h
    subst hl; subst hcc
    exact fin a w I
  intro fuel
  induction fuel with
  | zero =>
    intro listed c a w I hcnt
    have hr : Region.ready .any ol.toArray listed = [] := by
      rw [List.eq_nil_iff_forall_not_mem]
      intro i hi
      obtain ⟨h1, o, ho, _⟩ := mem_ready.1 hi
      have hlt : i < ol.length := by simpa using (Array.getElem?_eq_some_iff.1 ho).1
      have hz : (List.range ol.length).countP (fun i => !listed.getD i true) = 0 := by omega
      rw [List.countP_eq_zero] at hz
      exact hz i (by simp [hlt]) (by simp [h1])
    exact ⟨hr, done listed c a w I hr⟩
  | succ fuel ih =>
    intro listed c a w I hcnt
    refine ⟨fun hr => done listed c a w I hr, fun i hi => ?_⟩
    obtain ⟨hun, o, ho, hwait⟩ := mem_ready.1 hi
    have ho' : ol[i]? = some o := by simpa using ho
    have hlt : i < ol.length := (List.getElem?_eq_some_iff.1 ho').1
    have hls : i < listed.size := by rw [I.lsize]; exact hlt
    have hcnt' : (List.range ol.length).countP (fun j => !(listed.setIfInBounds i true).getD j true) ≤ fuel := by
      have : (List.range ol.length).countP (fun j => !(listed.setIfInBounds i true).getD j true) < (List.range ol.length).countP (fun j => !listed.getD j true) := by
        refine countP_lt _ _ (fun y hy => ?_) _ i (by simp [hlt]) (by simp [hun]) (by simp [Array.getD_eq_getD_getElem?, hls])
        by_cases hiy : i = y
        · subst hiy; simp [Array.getD_eq_getD_getElem?, hls] at hy
        · rwa [getD_set_ne true hiy] at hy
      omega
    have hbase : ∀ t, safeB ol i t = true → a.tmps.getD t undef = a0.tmps.getD t undef := by
      intro t ht
      refine I.base t fun j oj hj hlj hd => ?_
      have h1 := List.all_eq_true.1 ht oj (List.mem_of_getElem? hj)
      simp only [Bool.or_eq_true, bne_iff_ne, ne_eq, Array.any_eq_true, Bool.and_eq_true, beq_iff_eq] at h1
      rcases h1 with h1 | ⟨q, hq, h1, h2⟩
      · exact h1 hd
      · have := getD_of_false (I.closed j oj hj hlj _ (Array.getElem_mem hq) h2)
        rw [h1, hun] at this
        cases this
    have hdep : ∀ j oj d, depB ol i j = true → ol[j]? = some oj → oj.dst = some d → Φ j (a.tmps.getD d undef) w := by
      intro j oj d hj hoj hd
      obtain ⟨e, he, h1, h2⟩ := depB_spec ho' hj
      exact I.phi j oj d hoj (getD_of_false (by rw [← h1]; exact hwait e he h2)) hd
    have hset : ∀ j, j ≠ i → (listed.setIfInBounds i true).getD j true = listed.getD j true := fun j hj => getD_set_ne true (Ne.symm hj)
    have hseti : (listed.setIfInBounds i true).getD i true = true := by simp [Array.getD_eq_getD_getElem?, hls]
    have hclosed : ∀ j oj, ol[j]? = some oj → (listed.setIfInBounds i true).getD j true = true → ∀ e ∈ oj.after, Region.binds .any e = true → (listed.setIfInBounds i true).getD e.on false = true := by
      intro j oj hoj hlj e he hb
      refine getD_set_true ?_
      by_cases hji : j = i
      · subst hji
        rw [ho'] at hoj; cases hoj
        exact hwait e he hb
      · rw [hset j hji] at hlj
        exact I.closed j oj hoj hlj e he hb
    have hne : ∀ j oj d, ol[j]? = some oj → j ≠ i → o.dst = some d → oj.dst ≠ some d := by
      intro j oj d hoj hji hd hd'
      have hj : j < ol.length := (List.getElem?_eq_some_iff.1 hoj).1
      have h1 := List.all_eq_true.1 (List.all_eq_true.1 hdst i (by simp [hlt])) j (by simp [hj])
      simp only [ho', hoj, Bool.or_eq_true, beq_iff_eq, bne_iff_ne, ne_eq] at h1
      rcases h1 with h1 | h1 | h1
      · exact hji h1.symm
      · exact h1 (by rw [hd, hd'])
      · rw [hd] at h1; cases h1
    -- what is left of the frame, behind a value in slot d
    have hframe : ∀ d v w', o.dst = some d → R w w' → Φ i v w' → 
        (∀ t, (∀ j oj, ol[j]? = some oj → (listed.setIfInBounds i true).getD j true = true → oj.dst ≠ some t) → (putsL a [(d, v)]).tmps.getD t undef = a0.tmps.getD t undef) ∧
        (∀ j oj d', ol[j]? = some oj → (listed.setIfInBounds i true).getD j true = true → oj.dst = some d' → Φ j ((putsL a [(d, v)]).tmps.getD d' undef) w') := by
      intro d v w' hd hR hv
      have hdN : d < a.tmps.size := by
        have h1 := List.all_eq_true.1 hdn o (List.mem_of_getElem? ho')
        simp only [hd, Nat.blt_eq] at h1
        rw [I.size]; exact h1
      refine ⟨fun t ht => ?_, fun j oj d' hoj hlj hd' => ?_⟩
      · have hdt : d ≠ t := fun e => ht i o ho' hseti (by rw [hd, e])
        rw [get_put_ne hdt]
        refine I.base t fun j oj hoj hlj => ?_
        by_cases hji : j = i
        · subst hji; rw [hun] at hlj; cases hlj
        · exact ht j oj hoj (by rw [hset j hji]; exact hlj)
      · by_cases hji : j = i
        · subst hji
          rw [ho'] at hoj; cases hoj
          rw [hd] at hd'; cases hd'
          rw [get_put_eq hdN]
          exact hv
        · rw [hset j hji] at hlj
          have : d ≠ d' := fun e => hne j oj d hoj hji hd (by rw [hd', e])
          rw [get_put_ne this]
          exact hΦ j _ w w' hR (I.phi j oj d' hoj hlj hd')
    by_cases hin : ch.has i = true
    · have hmem : i ∈ ch.ops := by simpa [Chain.has] using hin
      obtain ⟨c0, hc0, hci⟩ := List.getElem_of_mem hmem
      have hci' : ch.ops[c0]? = some i := by simp [hc0, hci]
      have hcc : c0 = c := by
        have h1 : ¬ c0 < c := fun h => by
          have := (I.chain c0 i hci').2 h
          rw [hun] at this; cases this
        rcases Nat.lt_or_ge c c0 with h2 | h2
        · exfalso
          have h3 := List.all_eq_true.1 hc1 c0 (by simp [hc0])
          have hz : (c0 == 0) = false := by simp; omega
          have hp : ch.ops.getD (c0 - 1) 0 = ch.ops[c0 - 1] := by simp [List.getD_eq_getElem?_getD, show c0 - 1 < ch.ops.length by omega]
          have hq : ch.ops.getD c0 0 = i := by simp [List.getD_eq_getElem?_getD, hc0, hci]
          rw [hz, hp, hq, Bool.false_or] at h3
          obtain ⟨e, he, h4, h5⟩ := depB_spec ho' h3
          have h6 := getD_of_false (hwait e he h5)
          rw [h4] at h6
          have := (I.chain (c0 - 1) ch.ops[c0 - 1] (by simp [show c0 - 1 < ch.ops.length by omega])).1 h6
          omega
        · omega
      subst hcc
      refine wp_one (by simpa using ho') (obC c0 i o hci' ho' a w I.size I.rel hbase hdep I.chainC) fun a' w' h => ?_
      obtain ⟨h1, h2, h3⟩ := h
      have hchain : ∀ m i', ch.ops[m]? = some i' → ((listed.setIfInBounds i true).getD i' true = true ↔ m < c0 + 1) := by
        intro m i' hm
        by_cases hii : i' = i
        · subst hii
          have : m = c0 := by
            have hnd : ch.ops.Nodup := of_decide_eq_true hc4
            have hmlt : m < ch.ops.length := (List.getElem?_eq_some_iff.1 hm).1
            exact (List.getElem?_inj hmlt hnd).1 (by rw [hm, hci'])
          exact ⟨fun _ => by omega, fun _ => hseti⟩
        · rw [hset i' hii, I.chain m i' hm]
          refine ⟨fun h => by omega, fun h => ?_⟩
          rcases Nat.lt_or_ge m c0 with h' | h'
          · exact h'
          · have : m = c0 := by omega
            subst this
            rw [hci'] at hm; exact absurd (Option.some.inj hm).symm hii
      refine ih _ (c0 + 1) a' w' ?_ hcnt'
      rcases h1 with ⟨hd, rfl⟩ | ⟨d, v, hd, rfl, hv⟩
      · refine ⟨I.size, I.defers, fun t ht => ?_, fun j oj d' hoj hlj hd' => ?_, hclosed, by simp [I.lsize], by omega, hchain, h2, hRt _ _ _ I.rel h3⟩
        · refine I.base t fun j oj hoj hlj => ?_
          by_cases hji : j = i
          · subst hji; rw [hun] at hlj; cases hlj
          · exact ht j oj hoj (by rw [hset j hji]; exact hlj)
        · by_cases hji : j = i
          · subst hji
            rw [ho'] at hoj; cases hoj
            rw [hd] at hd'; cases hd'
          · rw [hset j hji] at hlj
            exact hΦ j _ w w' h3 (I.phi j oj d' hoj hlj hd')
      · obtain ⟨f1, f2⟩ := hframe d v w' hd h3 hv
        exact ⟨by rw [putsL_size, I.size], by rw [putsL_defers, I.defers], f1, f2, hclosed, by simp [I.lsize], by omega, hchain, h2, hRt _ _ _ I.rel h3⟩
    · have hin' : ch.has i = false := by simpa using hin
      have hck : ∀ m k, ch.ops[m]? = some k → depB ol k i = true → c ≤ m := by
        intro m k hm hdk
        rcases Nat.lt_or_ge m c with hlt2 | hge
        · exfalso
          have h1 := (I.chain m k hm).2 hlt2
          cases hok : ol[k]? with
          | none => simp [depB, hok] at hdk
          | some ok =>
            obtain ⟨e, he, h4, h5⟩ := depB_spec hok hdk
            have h6 := getD_of_false (I.closed k ok hok h1 e he h5)
            rw [h4, hun] at h6; cases h6
        · exact hge
      refine wp_one (by simpa using ho') (obN i o ho' hin' a w c I.size I.rel I.cle hck I.chainC hbase hdep) fun a' w' h => ?_
      obtain ⟨⟨d, v, hd, rfl, hv⟩, hg⟩ := h
      obtain ⟨f1, f2⟩ := hframe d v w' hd (hR0 _ _ hg) hv
      refine ih _ c _ w' ⟨by rw [putsL_size, I.size], by rw [putsL_defers, I.defers], f1, f2, hclosed, by simp [I.lsize], I.cle, ?_, ?_, hRt _ _ _ I.rel (hR0 _ _ hg)⟩ hcnt'
      · intro m i' hm
        have hii : i' ≠ i := by
          rintro rfl
          have : ch.has i' = true := by simpa [Chain.has] using List.mem_of_getElem? hm
          rw [hin'] at this; cases this
        rw [hset i' hii]
        exact I.chain m i' hm
      · have hsl : d ≠ ch.slot c := by
          intro he
          have h1 := List.all_eq_true.1 hc2 i (by simp [hlt])
          rw [hin', Bool.false_or] at h1
          simp only [ho'] at h1
          have h2 := List.all_eq_true.1 h1 c (by simp; have := I.cle; omega)
          simp only [hd, he, bne_self_eq_false, Bool.false_or, Bool.and_eq_true, Nat.blt_eq] at h2
          obtain ⟨e, he', h4, h5⟩ := depB_spec ho' h2.2
          have h6 := getD_of_false (hwait e he' h5)
          have hq : ch.ops.getD c 0 = ch.ops[c] := by simp [List.getD_eq_getElem?_getD, h2.1]
          rw [h4, hq] at h6
          have := (I.chain c ch.ops[c] (by simp [h2.1])).1 h6
          omega
        rw [get_put_ne hsl]
        exact hC c _ w w' hg I.chainC

/-- A region whose order is open; what is not of the chain is told how far the chain has come. -/
theorem reg_mid0 {id : Nat} (hm : P.follows .mixedOrders = true) (hlex : lexB' ol = true) (hdn : dstNB ol N = true) (hdst : dstsB ol = true) (hch : ch.okB ol = true)
    (hRr : ∀ w, R w w) (hRt : ∀ w1 w2 w3, R w1 w2 → R w2 w3 → R w1 w3) (hR0 : ∀ w1 w2, w1.grownBy w2 none → R w1 w2)
    (hΦ : ∀ j u w1 w2, R w1 w2 → Φ j u w1 → Φ j u w2) (hC : ∀ c u w1 w2, w1.grownBy w2 none → C c u w1 → C c u w2)
    {l : List (Nat × Value)} {w : World} (hN : a0.tmps.size = N) (hC0 : C 0 ((putsL a0 l).tmps.getD (ch.slot 0) undef) w)
    (obN : ∀ i o, ol[i]? = some o → ch.has i = false → ObM P ol Φ C ch (putsL a0 l) N w R i o) (obC : ∀ c i o, ch.ops[c]? = some i → ol[i]? = some o → ObC P ol Φ C ch (putsL a0 l) N w R c i o)
    (fin : ∀ a' w', a'.tmps.size = N → a'.defers = a0.defers → (∀ t, (ol.all fun o => o.dst != some t) = true → a'.tmps.getD t undef = (putsL a0 l).tmps.getD t undef) →
      (∀ j oj d, ol[j]? = some oj → oj.dst = some d → Φ j (a'.tmps.getD d undef) w') → C ch.ops.length (a'.tmps.getD (ch.slot ch.ops.length) undef) w' → R w w' → Q .normal (putsL a' []) w') :
    (Code.region id ol.toArray true).wp P Q (putsL a0 l) w := by
  refine wp_region_any hm ?_
  have hd : w.grownBy { w with drawn := w.drawn + 1 } none := ⟨rfl, rfl, rfl, Nat.le_refl _, fun _ _ _ => rfl⟩
  have I : RInv ol Φ C ch (putsL a0 l) N w R (Array.replicate ol.length false) 0 (putsL a0 l) { w with drawn := w.drawn + 1 } := by
    refine ⟨slN hN, rfl, fun _ _ => rfl, fun j o d hj hl => ?_, fun j o hj hl => ?_, by simp, Nat.zero_le _, fun m i hm => ?_, hC _ _ _ _ hd hC0, hR0 _ _ hd⟩
    · have : j < ol.length := (List.getElem?_eq_some_iff.1 hj).1
      simp [Array.getD_eq_getD_getElem?, this] at hl
    · have : j < ol.length := (List.getElem?_eq_some_iff.1 hj).1
      simp [Array.getD_eq_getD_getElem?, this] at hl
    · have h3 : i < ol.length := by
        have hch' := hch
        simp only [Chain.okB, Bool.and_eq_true] at hch'
        have := List.all_eq_true.1 hch'.1.2 i (List.mem_of_getElem? hm)
        simpa [Nat.blt_eq] using this
      simp [Array.getD_eq_getD_getElem?, h3]
  have := region_mid_steps (P := P) (Q := Q) hlex hdn hdst hch w hRt hR0 hΦ hC obN obC (fun a' w' J => fin a' w' J.size (by rw [J.defers, putsL_defers]) (fun t ht => J.base t fun j o hj _ hd => by
      have := List.all_eq_true.1 ht o (List.mem_of_getElem? hj)
      simp [hd] at this) (fun j oj d hj hd => J.phi j oj d hj (by
        have : j < ol.length := (List.getElem?_eq_some_iff.1 hj).1
        simp [Array.getD_eq_getD_getElem?, this]) hd) J.chainC J.rel) ol.length (Array.replicate ol.length false) 0 _ _ I (Nat.le_trans (List.countP_le_length) (by simp))
  simpa using this
end
section
variable {P : Program} {ol : List Oper} {Q : Exit → Act → World → Prop} {Φ : Nat → Value → World → Prop} {a0 : Act} {N : Nat} {base e sz n : Nat} {v : Value}
/-- What an operation that writes nothing must show: the list is one's own, with what it holds behind c stores. -/
def ObR (P : Program) (ol : List Oper) (Φ : Nat → Value → World → Prop) (CS : List (List Value)) (ops : List Nat) (base e sz n : Nat) (v : Value) (a0 : Act) (N : Nat) (w0 : World) (i : Nat) (o : Oper) : Prop :=
  ∀ (a : Act) (w : World) (c : Nat), a.tmps.size = N → w0.grownBy w v.ownBlock → (∀ m k, ops[m]? = some k → depB ol k i = true → c ≤ m) → Own w base e sz v n (CS.getD c []) →
    (∀ t, safeB ol i t = true → a.tmps.getD t undef = a0.tmps.getD t undef) → (∀ j oj d, depB ol i j = true → ol[j]? = some oj → oj.dst = some d → Φ j (a.tmps.getD d undef) w) →
    wpList P ol.toArray (fun e a' w' => e = .normal ∧ (∃ d v, o.dst = some d ∧ a' = putsL a [(d, v)] ∧ Φ i v w') ∧ w.grownBy w' none) [o] (putsL a []) w
/-- What a store must show. -/
def ObW (P : Program) (ol : List Oper) (Φ : Nat → Value → World → Prop) (CS : List (List Value)) (base e sz n : Nat) (v : Value) (a0 : Act) (N : Nat) (w0 : World) (c i : Nat) (o : Oper) : Prop :=
  ∀ (a : Act) (w : World), a.tmps.size = N → w0.grownBy w v.ownBlock → (∀ t, safeB ol i t = true → a.tmps.getD t undef = a0.tmps.getD t undef) → (∀ j oj d, depB ol i j = true → ol[j]? = some oj → oj.dst = some d → Φ j (a.tmps.getD d undef) w) → Own w base e sz v n (CS.getD c []) →
    wpList P ol.toArray (fun ex a' w' => ex = .normal ∧ ((o.dst = none ∧ a' = a) ∨ ∃ d v, o.dst = some d ∧ a' = putsL a [(d, v)] ∧ Φ i v w') ∧ Own w' base e sz v n (CS.getD (c + 1) []) ∧ w.grownBy w' v.ownBlock) [o] (putsL a []) w
theorem reg_mid {id : Nat} (ops : List Nat) (CS : List (List Value)) (hm : P.follows .mixedOrders = true) (hlex : lexB' ol = true) (hdn : dstNB ol N = true) (hdst : dstsB ol = true) (hch : (⟨ops, fun _ => N⟩ : Chain).okB ol = true)
    {l : List (Nat × Value)} {w : World} (hN : a0.tmps.size = N) (O : Own w base e sz v n (CS.getD 0 []))
    (hΦ : ∀ j u w1 w2, w1.grownBy w2 v.ownBlock → Φ j u w1 → Φ j u w2)
    (obR : ∀ i o, ol[i]? = some o → ops.contains i = false → ObR P ol Φ CS ops base e sz n v (putsL a0 l) N w i o) (obW : ∀ c i o, ops[c]? = some i → ol[i]? = some o → ObW P ol Φ CS base e sz n v (putsL a0 l) N w c i o)
    (fin : ∀ a' w', a'.tmps.size = N → a'.defers = a0.defers → (∀ t, (ol.all fun o => o.dst != some t) = true → a'.tmps.getD t undef = (putsL a0 l).tmps.getD t undef) →
      (∀ j oj d, ol[j]? = some oj → oj.dst = some d → Φ j (a'.tmps.getD d undef) w') → Own w' base e sz v n (CS.getD ops.length []) → w.grownBy w' v.ownBlock → Q .normal (putsL a' []) w') :
    (Code.region id ol.toArray true).wp P Q (putsL a0 l) w :=
  reg_mid0 (C := fun c _ w => Own w base e sz v n (CS.getD c [])) (ch := ⟨ops, fun _ => N⟩) (R := fun w1 w2 => w1.grownBy w2 v.ownBlock) hm hlex hdn hdst hch (fun w => grown_refl w _) (fun _ _ _ => grown_trans) (fun _ _ h => grown_any h _) hΦ
    (fun c u w1 w2 E h => h.keep0 E) hN O (fun i o hi hh => fun a w c h1 h2 _ h4 h5 h6 h7 => obR i o hi hh a w c h1 h2 h4 h5 h6 h7)
    (fun c i o hc hi => fun a w h1 h2 h3 h4 h5 => obW c i o hc hi a w h1 h2 h3 h4 h5)
    (fun a' w' h1 h2 h3 h4 h5 h6 => fin a' w' h1 h2 h3 h4 h5 h6)
end
section
variable {P : Program} {ol : List Oper} {Φ : Nat → Value → World → Prop} {CS : List (List Value)} {ops : List Nat} {a0 : Act} {N : Nat} {w0 : World} {base e sz n : Nat} {v : Value}
theorem obR_end {i d : Nat} {u : Value} {o : Oper} {op : Array Oper} {a : Act} {w w' : World} (hd : o.dst = some d) (hv : Φ i u w') (hg : w.grownBy w' none) :
    wpList P op (fun e a' w' => e = .normal ∧ (∃ d v, o.dst = some d ∧ a' = putsL a [(d, v)] ∧ Φ i v w') ∧ w.grownBy w' none) [] (putsL a [(d, u)]) w' := ⟨rfl, ⟨d, u, hd, rfl, hv⟩, hg⟩
theorem obW_end {c i : Nat} {o : Oper} {op : Array Oper} {a : Act} {w w' : World} (hd : o.dst = none) (hO : Own w' base e sz v n (CS.getD (c + 1) [])) (hg : w.grownBy w' v.ownBlock) :
    wpList P op (fun ex a' w' => ex = .normal ∧ ((o.dst = none ∧ a' = a) ∨ ∃ d v, o.dst = some d ∧ a' = putsL a [(d, v)] ∧ Φ i v w') ∧ Own w' base e sz v n (CS.getD (c + 1) []) ∧ w.grownBy w' v.ownBlock) [] (putsL a []) w' := ⟨rfl, .inl ⟨hd, rfl⟩, hO, hg⟩
def ObRs (P : Program) (ol : List Oper) (Φ : Nat → Value → World → Prop) (CS : List (List Value)) (ops : List Nat) (base e sz n : Nat) (v : Value) (a0 : Act) (N : Nat) (w0 : World) : Nat → List Oper → Prop
  | _, [] => True
  | i, o :: r => (ops.contains i = false → ObR P ol Φ CS ops base e sz n v a0 N w0 i o) ∧ ObRs P ol Φ CS ops base e sz n v a0 N w0 (i + 1) r
theorem ObRs.nil {i : Nat} : ObRs P ol Φ CS ops base e sz n v a0 N w0 i [] := trivial
theorem ObRs.cons {i : Nat} {o : Oper} {r : List Oper} (h : ObR P ol Φ CS ops base e sz n v a0 N w0 i o) (h' : ObRs P ol Φ CS ops base e sz n v a0 N w0 (i + 1) r) : ObRs P ol Φ CS ops base e sz n v a0 N w0 i (o :: r) := ⟨fun _ => h, h'⟩
theorem ObRs.pass {i : Nat} {o : Oper} {r : List Oper} (hh : ops.contains i = true) (h' : ObRs P ol Φ CS ops base e sz n v a0 N w0 (i + 1) r) : ObRs P ol Φ CS ops base e sz n v a0 N w0 i (o :: r) := ⟨fun h => absurd (hh.symm.trans h) (by decide), h'⟩
theorem ObRs.getx : ∀ {l : List Oper} {i : Nat}, ObRs P ol Φ CS ops base e sz n v a0 N w0 i l → ∀ j o, l[j]? = some o → ops.contains (i + j) = false → ObR P ol Φ CS ops base e sz n v a0 N w0 (i + j) o
  | [], _, _, j, o, h, _ => by simp at h
  | o' :: r, i, h, 0, o, hj, hs => by simp at hj; subst hj; exact h.1 hs
  | o' :: r, i, h, j + 1, o, hj, hs => by
    have := ObRs.getx h.2 j o (by simpa using hj) (by rwa [show i + 1 + j = i + (j + 1) by omega])
    rwa [show i + 1 + j = i + (j + 1) by omega] at this
theorem ObRs.get {l : List Oper} (h : ObRs P ol Φ CS ops base e sz n v a0 N w0 0 l) : ∀ j o, l[j]? = some o → ops.contains j = false → ObR P ol Φ CS ops base e sz n v a0 N w0 j o := fun j o hj hs => by
  have := ObRs.getx h j o hj (by rwa [Nat.zero_add])
  rwa [Nat.zero_add] at this
def ObWs (P : Program) (ol : List Oper) (Φ : Nat → Value → World → Prop) (CS : List (List Value)) (base e sz n : Nat) (v : Value) (a0 : Act) (N : Nat) (w0 : World) : Nat → List Nat → Prop
  | _, [] => True
  | c, i :: r => (∀ o, ol[i]? = some o → ObW P ol Φ CS base e sz n v a0 N w0 c i o) ∧ ObWs P ol Φ CS base e sz n v a0 N w0 (c + 1) r
theorem ObWs.nil {c : Nat} : ObWs P ol Φ CS base e sz n v a0 N w0 c [] := trivial
theorem ObWs.cons {c i : Nat} {r : List Nat} (h : ∀ o, ol[i]? = some o → ObW P ol Φ CS base e sz n v a0 N w0 c i o) (h' : ObWs P ol Φ CS base e sz n v a0 N w0 (c + 1) r) : ObWs P ol Φ CS base e sz n v a0 N w0 c (i :: r) := ⟨h, h'⟩
theorem ObWs.getx : ∀ {l : List Nat} {c : Nat}, ObWs P ol Φ CS base e sz n v a0 N w0 c l → ∀ m i o, l[m]? = some i → ol[i]? = some o → ObW P ol Φ CS base e sz n v a0 N w0 (c + m) i o
  | [], _, _, j, i, o, h, _ => by simp at h
  | o' :: r, c, h, 0, i, o, hj, ho => by simp at hj; subst hj; exact h.1 o ho
  | o' :: r, c, h, j + 1, i, o, hj, ho => by
    have := ObWs.getx h.2 j i o (by simpa using hj) ho
    rwa [show c + 1 + j = c + (j + 1) by omega] at this
theorem ObWs.get {l : List Nat} (h : ObWs P ol Φ CS base e sz n v a0 N w0 0 l) : ∀ m i o, l[m]? = some i → ol[i]? = some o → ObW P ol Φ CS base e sz n v a0 N w0 m i o := fun m i o hj ho => by
  have := ObWs.getx h m i o hj ho
  rwa [Nat.zero_add] at this
end
/-- What is told of an operation's value does not hang on the world. -/
def StW (row : Option Nat) : List (Value → World → Prop) → Prop := StL row
theorem StL.at {row : Option Nat} {v : Value} {q : Nat} {L : List (Value → World → Prop)} (h' : StL row L) : StL row ((fun u _ => ∃ b o, u = ptr b o ∧ AtV v q b o) :: L) := ⟨fun _ _ _ _ h => h, h'⟩
end Go.Gx

/- Small laws for walks, the seventeenth part: the tail of one's own list, looked at while the list is written; clear; a list that is asked whether it is nil. -/
namespace Go.Gx
open Go.RowKit
section
variable {P : Program} {Q : Exit → Act → World → Prop} {a : Act} {w w' : World} {l : List (Nat × Value)} {ops : Array Oper} {rest : List Oper}
variable {d ty t : Nat} {p : String} {af : Array Edge} {x y : Operand} {v : Value} {n k L B base e by_ : Nat} {cs : List Value} {zv : Value}
/-- A list from its element k on. -/
def tailV (v : Value) (k : Nat) : Value := match v with | .slice (some ⟨b, off, none⟩) n c => .slice (some ⟨b, off + k, none⟩) (n - k) (c - k) | x => x
theorem RdC.tail (R : RdC w L B 1 v n cs) (h0 : 0 < n) (hk : k ≤ n) : RdC w L B 1 (tailV v k) (n - k) (cs.drop k) := by
  obtain ⟨hl, ad, c, rfl, hnc, hcm, hr⟩ := R
  rcases hr with rfl | ⟨b, off, rfl, h1, h2, hc⟩
  · simp at hl; omega
  · exact ⟨by simp; omega, _, _, rfl, by omega, by omega, .inr ⟨b, off + k, rfl, h1, h2, fun j u hj => by
      have := hc (k + j) u (by simpa using hj)
      rw [show off + k + j = off + (k + j) by omega]; exact this⟩⟩
theorem op_slice_tail {q : Operand} {kk : IntKind} (T : SlT P t e zv 1 by_) (hx : (putsL a l).eval x = v) (R : RdC w L B 1 v n cs) (h0 : 0 < n) (hq : (putsL a l).eval q = .int kk (k : Int)) (hk : k < n)
    (h : wpList P ops Q rest (putsL a ((d, tailV v k) :: l)) w) :
    wpList P ops Q (⟨some d, .slice t x (some q) none none, ty, p, af, none⟩ :: rest) (putsL a l) w := by
  obtain ⟨inf, hi, hz0, hz1, hz2⟩ := info_parts T.info
  obtain ⟨hl, ad, c, rfl, hnc, hcm, hr⟩ := R
  rcases hr with rfl | ⟨b, off, rfl, h1, h2, hc⟩
  · simp at hl; omega
  · have e1 : ¬ ((n : Int) < (k : Int)) := by omega
    have e2 : ¬ ((c : Int) < (n : Int)) := by omega
    have e3 : ¬ n < k := by omega
    have e4 : ¬ c < n := by omega
    refine op_gen (v := .slice (some ⟨b, off + k, none⟩) (n - k) (c - k)) rfl ?_ h
    simp [execOp, hx, hq, Instr.sliceAt, Instr.slice, run_underlying T.und, Instr.sliceBounds, Instr.sliceBound, asIntOf, sizeOf, typeInfo, hi, Addr.add_lit, hz1, Nat.le_of_lt hk, hnc]
    omega
theorem own_setCells {q g off n' cap : Nat} {vs : List Value} (O : Own w base e 1 (.slice (some ⟨g, off, none⟩) n cap) n cs) (hq : q + vs.length ≤ n) (h1 : vs.all Value.oneCell' = true) :
    Own (w.setCells g (off + q) vs) base e 1 (.slice (some ⟨g, off, none⟩) n cap) n (cs.take q ++ vs ++ cs.drop (q + vs.length)) ∧ (∀ j, j < vs.length → (w.cell? ⟨g, off + q + j, none⟩).isSome = true) ∧ (∀ j, j < vs.length → w.frozen? ⟨g, off + q + j, none⟩ = false) := by
  obtain ⟨hl, ⟨hv, _⟩ | ⟨g', off', cap', cur, fr, hv, hb, hg, hf, hnc, hcm, hfit, htk⟩⟩ := O
  · cases hv
  · injection hv with e1 e2 e3; injection e1 with e1; injection e1 with e1 e4; subst e1; subst e3; subst e4
    rw [Nat.mul_one] at hl hfit
    have hsz : off + q + vs.length ≤ cur.size := by omega
    refine ⟨⟨by simp; omega, .inr ⟨g, off, cap, setsAt cur (off + q) vs, fr, rfl, hb, heap_setCells g e fr vs (off + q) w cur hg, by rw [size_setsAt]; exact hf, hnc, hcm, by rw [size_setsAt]; omega, ?_⟩⟩, fun j hj => by simp [World.cell?, hg]; omega, fun j hj => by
      have := hf (off + q + j) (by omega)
      obtain ⟨lo, hi⟩ := fr
      simp only [World.frozen?, hg]
      simpa [Bool.and_eq_false_iff] using this⟩
    apply List.ext_getElem?
    intro j
    have hcs : ∀ j, cs[j]? = if j < n then cur[off + j]? else none := by
      intro j
      rw [← htk, List.getElem?_take, Nat.mul_one]
      split
      · rw [List.getElem?_drop]; simp
      · rfl
    rw [List.getElem?_take, List.getElem?_drop]
    simp only [Array.getElem?_toList, Nat.mul_one]
    rw [get_setsAt vs (off + q) cur (off + j) hsz]
    simp only [List.getElem?_append, List.length_append, List.length_take, List.getElem?_take, List.getElem?_drop, hcs]
    by_cases h1 : j < n
    · by_cases h2 : j < q
      · rw [if_pos h1, if_neg (by omega), if_pos (by omega), if_pos (by omega), if_pos h2, if_pos h1]
      · by_cases h3 : j < q + vs.length
        · rw [if_pos h1, if_pos (by omega), if_pos (by omega), if_neg (by omega), show off + j - (off + q) = j - min q cs.length by omega]
        · rw [if_pos h1, if_neg (by omega), if_neg (by omega), show q + vs.length + (j - (min q cs.length + vs.length)) = j by omega, if_pos h1]
    · rw [if_neg h1, if_neg (by omega), show q + vs.length + (j - (min q cs.length + vs.length)) = j by omega, if_neg h1]
theorem op_clear_tail {sT : Nat} (T : SlT P sT e zv 1 by_) (hz : zv.cells = #[zv]) (hz1 : zv.oneCell' = true) (hx : (putsL a l).eval x = tailV v k) (O : Own w base e 1 v n cs) (hk : k < n)
    (h : ∀ w', Own w' base e 1 v n (cs.take k ++ List.replicate (n - k) zv) → w.grownBy w' v.ownBlock → wpList P ops Q rest (putsL a l) w') :
    wpList P ops Q (⟨none, .call ⟨.builtin .clear, #[x], #[sT]⟩, ty, p, af, none⟩ :: rest) (putsL a l) w := by
  obtain ⟨inf, hi, hz0, hzz, hz2⟩ := info_parts T.info
  have hv : ∀ w, (zeroValue e).run P w = .ok zv w := fun w => by simp [zeroValue, typeInfo, hi, hz0]
  have O' := O
  obtain ⟨hl, ⟨rfl, rfl⟩ | ⟨g, off, cap, cur, fr, rfl, hb, hg, hf, hnc, hcm, hfit, htk⟩⟩ := O
  · omega
  · have hone : (List.replicate (n - k) zv).all Value.oneCell' = true := by simp [hz1]
    obtain ⟨g1, g2, g3⟩ := own_setCells (n' := 0) O' (q := k) (vs := List.replicate (n - k) zv) (by simp; omega) hone
    have hd : cs.drop (k + (List.replicate (n - k) zv).length) = [] := by rw [List.drop_eq_nil_of_le]; simp; omega
    rw [hd, List.append_nil] at g1
    have hrun := Lib.run_clear_slice (P := P) w sT e ty zv T.und hv hz hz1 g (off + k) (n - k) (cap - k) (by omega) (fun j hj => g2 j (by simpa using hj)) (fun j hj => g3 j (by simpa using hj))
    refine op_gen (v := .tuple #[]) (w' := w.setCells g (off + k) (List.replicate (n - k) zv)) rfl ?_ (h _ g1 (grown_setCells w g _ _))
    have hx' : (putsL a l).eval x = .slice (some ⟨g, off + k, none⟩) (n - k) (cap - k) := hx
    simp only [execOp, hx', resolve, invoke, builtin, Sem.run_bind, Sem.run_pure, Result.andThen_ok, List.map_toArray, List.map_cons, List.map_nil, hrun]
theorem RdC.cells {sz : Nat} (R : RdC w L B sz v n cs) : v.cells.toList = [v] := by
  obtain ⟨hl, ad, c, rfl, hnc, hcm, hr⟩ := R
  rfl
/-- one's own list that stood in an earlier world is read below that world's end -/
theorem Own.rdB {w0 : World} {sz base0 e0 sz0 n0 : Nat} {cs0 : List Value} (O : Own w base e sz v n cs) (O0 : Own w0 base0 e0 sz0 v n0 cs0) : RdC w base w0.heap.size sz v n cs := by
  obtain ⟨hl, ad, c, rfl, hnc, hcm, hr⟩ := O.rdw
  refine ⟨hl, ad, c, rfl, hnc, hcm, ?_⟩
  rcases hr with rfl | ⟨b, off, rfl, h1, h2, hc⟩
  · exact .inl rfl
  · exact .inr ⟨b, off, rfl, h1, (O0.lt b rfl).2, hc⟩
/-- whether a list is nil -/
theorem op_eql_nil {xt yt sz : Nat} (T : SlT P xt e zv sz by_) (hx : (putsL a l).eval x = v) (hy : (putsL a l).eval y = .slice none 0 0) (R : RdC w L B sz v n cs)
    (h1 : n = 0 → wpList P ops Q rest (putsL a ((d, .bool true) :: l)) w) (h2 : wpList P ops Q rest (putsL a ((d, .bool false) :: l)) w) :
    wpList P ops Q (⟨some d, .binOp .eql xt x y yt, ty, p, af, none⟩ :: rest) (putsL a l) w := by
  obtain ⟨hl, ad, c, rfl, hnc, hcm, hr⟩ := R
  have hrun : (execOp (putsL a l).eval (⟨some d, .binOp .eql xt x y yt, ty, p, af, none⟩ : Oper)).run P w = .ok (.value (.bool ad.isNone)) w := by
    have := Lib.run_eql_slice_nil (P := P) w xt e ad n c 0 0 T.und
    have hg : (eqGuard .eql xt x y (Value.slice ad n c) (Value.slice none 0 0)).run P w = .ok () w := by simp [eqGuard]
    simp only [execOp, hx, hy]
    simp [this, hg]
  cases ad with
  | none =>
    refine op_gen rfl hrun (h1 ?_)
    rcases hr with rfl | ⟨b, off, hv, _⟩
    · have hp := T.pos
      have hq : n * sz = 0 := by simpa using hl.symm
      rcases Nat.mul_eq_zero.1 hq with h | h
      · exact h
      · omega
    · cases hv
  | some ad => exact op_gen rfl hrun h2
/-- a function with what it holds -/
theorem op_mkfn {f : FuncId} {co : List Operand} {cv : List Value} (hm : argsEv (putsL a l).eval co cv) (h : wpList P ops Q rest (putsL a ((d, .func (.func f) #[] cv.toArray) :: l)) w) :
    wpList P ops Q (⟨some d, .makeFunc (.func f) #[] co.toArray, ty, p, af, none⟩ :: rest) (putsL a l) w := by
  refine op_gen rfl ?_ h
  have e : co.toArray.map (putsL a l).eval = cv.toArray := by rw [List.map_toArray, argsEv_map hm]
  simp [execOp, e, Instr.makeFunc]
end
end Go.Gx

/- Small laws for walks, the eighteenth part: append of zeros onto nothing, cuts of one's own lists. -/
namespace Go.Gx
open Go.RowKit
section
variable {P : Program} {Q : Exit → Act → World → Prop} {a : Act} {w w' : World} {l : List (Nat × Value)} {ops : Array Oper} {rest : List Oper}
variable {d ty t e : Nat} {p : String} {af : Array Edge} {x y : Operand} {v : Value} {k : IntKind} {n base sz by_ : Nat} {cs : List Value} {zv : Value}
theorem Ret.flip {f : FuncId} {args : Array Value} {A : Value → Prop} (h : Ret P f args w (fun v w' => A v ∧ w' = w)) : Ret P f args w (fun v w' => A v ∧ w = w') := h.mono fun _ _ h => ⟨h.1, h.2.symm⟩
theorem g_undef {o oj : Oper} {j dj dd : Nat} {b : Bool} (hg : o.guard = some (j, b)) (hj : ops[j]? = some oj) (hd : oj.dst = some dj) (hv : (putsL a l).eval (.tmp dj) = undef) (hdd : o.dst = some dd)
    (h : wpList P ops Q rest (putsL a ((dd, undef) :: l)) w) : wpList P ops Q (o :: rest) (putsL a l) w := by
  have hv' : (putsL a l).tmps.getD dj undef = undef := hv
  have hy : yielded ops (putsL a l).tmps j = none := by
    unfold yielded
    simp only [hj, Option.bind_some, hd]
    rw [Array.getD_eq_getD_getElem?] at hv'
    cases hq : (putsL a l).tmps[dj]? with
    | none => rfl
    | some v => rw [hq] at hv'; simp at hv'; subst hv'; rfl
  unfold wpList
  have h1 : Region.wanted o (yielded ops (putsL a l).tmps) = false := by
    simp [Region.wanted, hg, hy]
  simp only [h1, Bool.false_eq_true, if_false, hdd]
  exact h
theorem op_slice_nil {high : Operand} (T : SlT P t e zv sz by_) (hx : (putsL a l).eval x = .slice none 0 0) (hh : (putsL a l).eval high = .int k 0) (h : wpList P ops Q rest (putsL a ((d, .slice none 0 0) :: l)) w) :
    wpList P ops Q (⟨some d, .slice t x none (some high) none, ty, p, af, none⟩ :: rest) (putsL a l) w := by
  obtain ⟨inf, hi, hz0, hz1, hz2⟩ := info_parts T.info
  refine op_gen (v := .slice none 0 0) rfl ?_ h
  simp [execOp, hx, hh, Instr.sliceAt, Instr.slice, run_underlying T.und, Instr.sliceBounds, Instr.sliceBound, asIntOf, sizeOf, typeInfo, hi]
theorem op_append_zeros_nil {tn : Nat} {kn : IntKind} (T : SlT P t e zv sz by_) (htn : P.underlying tn = some (.int kn)) (hx : (putsL a l).eval x = .slice none 0 0) (hy : (putsL a l).eval y = .int k (n : Int)) (h0 : 0 < n) (h63 : (n : Int) ≤ 9223372036854775807) (h48 : n * by_ ≤ 281474976710656) (hbase : base ≤ w.heap.size)
    (h : ∀ v' w' cs, Own w' base e sz v' n cs → w.grownBy w' none → (∀ b, v'.ownBlock = some b → w.heap.size ≤ b) → wpList P ops Q rest (putsL a ((d, v') :: l)) w') :
    wpList P ops Q (⟨some d, .call ⟨.builtin .append, #[x, y], #[t, tn]⟩, ty, p, af, none⟩ :: rest) (putsL a l) w := by
  obtain ⟨i, hi, hz, hsize, hby⟩ := info_parts T.info
  subst hsize; subst hby
  have hpos := T.pos
  have hzs := T.zs
  have hr := Lib.run_append_nil_zeros (P := P) w t tn ty e i zv k kn T.und htn hi hz n h0 hpos h63 h48
  have hge := grownCap_ge w n 0 e
  have hcm : grownCap w n 0 e ≤ maxLen := grownCap_le_maxLen w n 0 e (by unfold maxLen; omega)
  refine op_gen (v := _) (w' := _) rfl (by simp only [execOp, hx, hy, resolve, invoke, builtin, Sem.run_bind, Sem.run_pure, Result.andThen_ok, List.map_toArray, List.map_cons, List.map_nil, hr]; rfl) (h _ _ (((Builtin.zeroCells zv.cells n ++ Builtin.zeroCells zv.cells (grownCap w n 0 e - n)).toList).take (n * i.size)) ?_ ?_ ?_)
  · refine ⟨?_, .inr ⟨w.heap.size, 0, _, _, (0, 0), rfl, hbase, heap_alloc_new w.drew _, by simp, hge, hcm, ?_, by simp⟩⟩
    · simp [size_zeroCells, hzs, Nat.le_add_right]
    · simp only [Array.size_append, size_zeroCells, hzs, ← Nat.add_mul, Nat.zero_add]
      exact Nat.le_of_eq (by congr 1; omega)
  · exact ⟨rfl, rfl, rfl, by simp, fun k hk _ => Below.heap_alloc w.drew _ k hk⟩
  · intro b hb
    simp [Value.ownBlock] at hb
    omega
theorem Own.cut (O : Own w base e sz v n cs) {m : Nat} (hm : m ≤ n) : ∃ v', (v = .slice none 0 0 ∧ v' = .slice none 0 0 ∨ ∃ g c, v = .slice (some g) n c ∧ v' = .slice (some g) m c) ∧ Own w base e sz v' m (cs.take (m * sz)) ∧ v'.ownBlock = v.ownBlock := by
  obtain ⟨hl, ⟨rfl, rfl⟩ | ⟨g, off, cap, cur, fr, rfl, hb, hg, hf, hnc, hcm, hfit, htk⟩⟩ := O
  · have : m = 0 := by omega
    subst this
    exact ⟨_, .inl ⟨rfl, rfl⟩, by simpa using Own.nil w base e sz, rfl⟩
  · have hle : m * sz ≤ n * sz := Nat.mul_le_mul_right _ hm
    exact ⟨_, .inr ⟨_, _, rfl, rfl⟩, ⟨by simp; omega, .inr ⟨g, off, cap, cur, fr, rfl, hb, hg, hf, by omega, hcm, hfit, by rw [← htk, List.take_take, Nat.min_eq_left hle]⟩⟩, rfl⟩
/-- one's own list, cut behind: it is one's own still -/
theorem op_slice_own_hi {high : Operand} {m : Nat} {r : Int} (T : SlT P t e zv sz by_) (hx : (putsL a l).eval x = v) (O : Own w base e sz v n cs) (hh : (putsL a l).eval high = .int k r) (hr : r = (m : Int)) (hm : m ≤ n)
    (h : ∀ v', Own w base e sz v' m (cs.take (m * sz)) → v'.ownBlock = v.ownBlock → wpList P ops Q rest (putsL a ((d, v') :: l)) w) :
    wpList P ops Q (⟨some d, .slice t x none (some high) none, ty, p, af, none⟩ :: rest) (putsL a l) w := by
  obtain ⟨inf, hi, hz0, hz1, hz2⟩ := info_parts T.info
  subst hr
  have O' := O
  obtain ⟨v', hv', O2, hob⟩ := O.cut hm
  obtain ⟨hl, ⟨rfl, rfl⟩ | ⟨g, off, cap, cur, fr, rfl, hb, hg, hf, hnc, hcm, hfit, htk⟩⟩ := O'
  · have h0 : m = 0 := by omega
    subst h0
    rcases hv' with ⟨_, rfl⟩ | ⟨g, c, hv, _⟩
    · refine op_gen (v := .slice none 0 0) rfl ?_ (h _ O2 hob)
      simp [execOp, hx, hh, Instr.sliceAt, Instr.slice, run_underlying T.und, Instr.sliceBounds, Instr.sliceBound, asIntOf, sizeOf, typeInfo, hi]
    · cases hv
  · rcases hv' with ⟨hv, _⟩ | ⟨g', c', hv, rfl⟩
    · cases hv
    · injection hv with e1 e2 e3; injection e1 with e1; subst e1; subst e3
      have hmc : m ≤ cap := by omega
      have hmc' : ¬ ((cap : Int) < (m : Int)) := by omega
      refine op_gen (v := .slice (some ⟨g, off, none⟩) m cap) rfl ?_ (h _ O2 hob)
      simp [execOp, hx, hh, Instr.sliceAt, Instr.slice, run_underlying T.und, Instr.sliceBounds, Instr.sliceBound, asIntOf, sizeOf, typeInfo, hi, Addr.add_lit, hmc]
end
end Go.Gx

/- Small laws for walks, the nineteenth part: regions of open order whose operations leave the world as it is, told in the text's order. -/
namespace Go.Gx
open Go.RowKit
/-- Operations that hand a value back, or halt. -/
def plainOp : Op → Bool
  | .move _ | .assign _ | .pick _ _ _ | .build _ _ | .load _ _ | .nilCheck _ | .binOp _ _ _ _ _ | .unOp _ _ _ | .convert _ _ _ | .slice _ _ _ _ _ | .fieldAddr _ _ _ | .field _ _ _ | .indexAddr _ _ _ | .index _ _ _ | .lookup _ _ _ _ | .makeFunc _ _ _ | .extract _ _ => true
  | .call ⟨.builtin .len, _, _⟩ | .call ⟨.builtin .cap, _, _⟩ | .call ⟨.builtin .min, _, _⟩ | .call ⟨.builtin .max, _, _⟩ => true
  | _ => false
def ValOrHalt (r : Result Next) : Prop := (∃ v w', r = .ok (.value v) w') ∨ ∃ x w', r = .halt x w'
theorem vh_bind {P : Program} {w : World} (s : Sem Value) : ValOrHalt ((do let v ← s; pure (Next.value v) : Sem Next).run P w) := by
  rw [Sem.run_bind]
  cases hs : s.run P w with
  | ok v w' => exact .inl ⟨v, w', by simp⟩
  | halt x w' => exact .inr ⟨x, w', by simp [Result.andThen]⟩
theorem vh_pure {P : Program} {w : World} (v : Value) : ValOrHalt ((pure (Next.value v) : Sem Next).run P w) := .inl ⟨v, w, by simp⟩
theorem vh_then {P : Program} {w : World} {α : Type} (s : Sem α) (f : α → Sem Next) (h : ∀ x w, ValOrHalt ((f x).run P w)) : ValOrHalt ((do let x ← s; f x : Sem Next).run P w) := by
  rw [Sem.run_bind]
  cases hs : s.run P w with
  | ok v w' => simpa using h v w'
  | halt x w' => exact .inr ⟨x, w', by simp [Result.andThen]⟩
theorem run_plain {P : Program} {ρ : Operand → Value} {w : World} {o : Oper} (h : plainOp o.op = true) : ValOrHalt ((execOp ρ o).run P w) := by
  obtain ⟨dst, op, ty, pos, af, g⟩ := o
  cases op <;> simp only [plainOp] at h <;> first | (cases h; done) | skip
  case move => exact vh_pure _
  case assign => exact vh_pure _
  case pick => exact vh_then _ _ fun _ _ => vh_pure _
  case nilCheck x =>
    simp only [execOp]
    split
    · exact .inr ⟨_, _, rfl⟩
    · exact .inr ⟨_, _, rfl⟩
    · exact .inr ⟨_, _, rfl⟩
    · split
      · exact .inr ⟨_, _, rfl⟩
      · refine vh_then _ _ fun _ _ => vh_then _ _ fun _ _ => ?_
        split
        · exact vh_then _ _ fun _ _ => vh_pure _
        · exact vh_pure _
      · exact vh_pure _
    · exact vh_pure _
  case call c =>
    obtain ⟨callee, ags, ts⟩ := c
    cases callee with
    | builtin b => cases b <;> simp only [plainOp] at h <;> first | (cases h; done) | exact vh_bind (Builtin.len_ ts ty (ags.map ρ)) | exact vh_bind (Builtin.cap_ ts ty (ags.map ρ)) | exact vh_bind (Builtin.min_ ts ty (ags.map ρ)) | exact vh_bind (Builtin.max_ ts ty (ags.map ρ))
    | value x => simp [plainOp] at h
    | invoke r n => simp [plainOp] at h
  all_goals exact vh_bind _
section
variable {P : Program} {Q : Exit → Act → World → Prop} {a : Act} {w w' : World} {l : List (Nat × Value)} {ops : Array Oper} {rest : List Oper} {K : Act → Prop}
variable {d ty xt yt t e : Nat} {p : String} {af : Array Edge} {x y z : Operand} {v u zv : Value} {k : IntKind} {m n r : Int}
theorem st_nil (h : K a) : wpStill P ops w K [] a := h
/-- one operation that leaves the world as it is: whatever its law says of what it puts -/
theorem st_any {S : Act → Prop} {o : Oper} {A : Act} (hp : plainOp o.op = true) (H : ∀ Q : Exit → Act → World → Prop, (∀ a', S a' → Q .normal a' w) → wpList P ops Q [o] A w) (h : ∀ a', S a' → wpStill P ops w K rest a') : wpStill P ops w K (o :: rest) A := by
  have G := H (fun e a' w' => e = .normal ∧ w' = w ∧ S a') fun a' hs => ⟨rfl, rfl, hs⟩
  unfold wpList at G
  unfold wpStill
  by_cases hw : Region.wanted o (yielded ops A.tmps) = true
  · rw [if_pos hw] at G ⊢
    rcases G with G | ⟨_, a1, w1, h1, _⟩
    · unfold Oper.wp at G
      unfold Oper.still
      rcases run_plain (P := P) (ρ := A.eval) (w := w) hp with ⟨v, w', hr⟩ | ⟨x, w', hr⟩
      · rw [hr] at G ⊢
        simp only [Oper.upon] at G
        obtain ⟨_, rfl, hs⟩ := (show Exit.normal = Exit.normal ∧ w' = w ∧ S (A.put o.dst v) from G)
        exact ⟨rfl, h _ hs⟩
      · rw [hr] at G
        exfalso
        cases x <;> simp only [Oper.upon] at G
        exact absurd G.1 (by simp)
    · cases h1
  · rw [if_neg hw] at G ⊢
    exact h _ (show Exit.normal = Exit.normal ∧ w = w ∧ S (A.put o.dst undef) from G).2.2
theorem st_step {o : Oper} {A B : Act} (hp : plainOp o.op = true) (H : ∀ Q : Exit → Act → World → Prop, wpList P ops Q [] B w → wpList P ops Q [o] A w) (h : wpStill P ops w K rest B) : wpStill P ops w K (o :: rest) A :=
  st_any (S := fun a' => a' = B) hp (fun Q hq => H Q (hq B rfl)) fun _ e => by subst e; exact h
theorem st_fork {c : Prop} {o : Oper} {A B1 B2 : Act} (hp : plainOp o.op = true) (H : ∀ Q : Exit → Act → World → Prop, (c → wpList P ops Q [] B1 w) → (¬ c → wpList P ops Q [] B2 w) → wpList P ops Q [o] A w)
    (h1 : c → wpStill P ops w K rest B1) (h2 : ¬ c → wpStill P ops w K rest B2) : wpStill P ops w K (o :: rest) A := by
  by_cases hc : c
  · exact st_step hp (fun Q hq => H Q (fun _ => hq) fun hn => absurd hc hn) (h1 hc)
  · exact st_step hp (fun Q hq => H Q (fun hy => absurd hy hc) fun _ => hq) (h2 hc)
theorem st_index_rd {L B sz c : Nat} {cs : List Value} {i : Int} {z : Value} {by_ : Nat} (T : SlT P xt e z sz by_) (hx : (putsL a l).eval x = v) (hr : RdC w L B sz v c cs) (hy : (putsL a l).eval y = .int k i) (h0 : 0 ≤ i) (h1 : i < (c : Int))
    (h : ∀ b off, L ≤ b → b < B → (∀ j u, j < sz → cs[i.toNat * sz + j]? = some u → w.cell? ⟨b, off + j, none⟩ = some u) → wpStill P ops w K rest (putsL a ((d, ptr b off) :: l))) :
    wpStill P ops w K (⟨some d, .indexAddr xt x y, ty, p, af, none⟩ :: rest) (putsL a l) :=
  st_any (S := fun a' => ∃ b off, (L ≤ b ∧ b < B ∧ ∀ j u, j < sz → cs[i.toNat * sz + j]? = some u → w.cell? ⟨b, off + j, none⟩ = some u) ∧ a' = putsL a ((d, ptr b off) :: l)) rfl
    (fun _ hq => op_index_rd T hx hr hy h0 h1 fun b off g1 g2 g3 => hq _ ⟨b, off, ⟨g1, g2, g3⟩, rfl⟩) fun _ ⟨b, off, ⟨g1, g2, g3⟩, e⟩ => by subst e; exact h b off g1 g2 g3
theorem st_index_own {n base sz by_ i : Nat} {cs : List Value} (T : SlT P xt e zv sz by_) (hx : (putsL a l).eval x = v) (O : Own w base e sz v n cs) (hy : (putsL a l).eval y = .int k r) (hr : r = (i : Int)) (h1 : i < n)
    (h : ∀ b o, base ≤ b → AtV v (i * sz) b o → wpStill P ops w K rest (putsL a ((d, ptr b o) :: l))) : wpStill P ops w K (⟨some d, .indexAddr xt x y, ty, p, af, none⟩ :: rest) (putsL a l) :=
  st_any (S := fun a' => ∃ b o, (base ≤ b ∧ AtV v (i * sz) b o) ∧ a' = putsL a ((d, ptr b o) :: l)) rfl (fun _ hq => op_index_own T hx O hy hr h1 fun b o g1 g2 => hq _ ⟨b, o, ⟨g1, g2⟩, rfl⟩) fun _ ⟨b, o, ⟨g1, g2⟩, e⟩ => by subst e; exact h b o g1 g2
theorem st_slice_rd {L B c lo hi sz by_ : Nat} {cs : List Value} {low high : Option Operand} (T : SlT P t e zv sz by_) (hx : (putsL a l).eval x = v) (hr : RdC w L B sz v c cs)
    (hlo : (low = none ∧ lo = 0) ∨ ∃ q k, low = some q ∧ (putsL a l).eval q = .int k (lo : Int)) (hhi : (high = none ∧ hi = c) ∨ ∃ q k, high = some q ∧ (putsL a l).eval q = .int k (hi : Int)) (h1 : lo ≤ hi) (h2 : hi ≤ c)
    (h : ∀ v', RdC w L B sz v' (hi - lo) ((cs.drop (lo * sz)).take ((hi - lo) * sz)) → wpStill P ops w K rest (putsL a ((d, v') :: l))) :
    wpStill P ops w K (⟨some d, .slice t x low high none, ty, p, af, none⟩ :: rest) (putsL a l) :=
  st_any (S := fun a' => ∃ v', RdC w L B sz v' (hi - lo) ((cs.drop (lo * sz)).take ((hi - lo) * sz)) ∧ a' = putsL a ((d, v') :: l)) rfl (fun _ hq => op_slice_rd T hx hr hlo hhi h1 h2 fun v' g => hq _ ⟨v', g, rfl⟩) fun _ ⟨v', g, e⟩ => by subst e; exact h v' g
/-- a call that hands one value back and leaves the world as it is -/
theorem st_fn {f : FuncId} {ags : List Operand} {ts : Array Nat} {vs : List Value} (hf : callOk P f = true) (hm : argsEv (putsL a l).eval ags vs) (hc : Ret P f vs.toArray w (fun v' w' => v' = v ∧ w' = w))
    (h : wpStill P ops w K rest (putsL a ((d, v) :: l))) : wpStill P ops w K (⟨some d, .call ⟨.value (.func f), ags.toArray, ts⟩, ty, p, af, none⟩ :: rest) (putsL a l) := by
  unfold wpStill
  rw [if_pos (show Region.wanted _ _ = true from rfl)]
  have he : (execOp (putsL a l).eval ⟨some d, .call ⟨.value (.func f), ags.toArray, ts⟩, ty, p, af, none⟩).run P w = .ok (.enter f vs.toArray) w := by
    show (callFunc f (#[] ++ ags.toArray.map (putsL a l).eval ++ #[])).run P w = _
    rw [List.map_toArray, argsEv_map hm, run_callFunc hf]; simp
  unfold Oper.still
  rw [he]
  exact ⟨rfl, v, Calls.mono hc fun e w' ⟨v', he, hv, hw⟩ => ⟨by rw [he, hv], hw⟩, h⟩
theorem st_g_true {o oj : Oper} {j dj : Nat} {b : Bool} (hg : o.guard = some (j, b)) (hj : ops[j]? = some oj) (hd : oj.dst = some dj) (hv : (putsL a l).eval (.tmp dj) = .bool b)
    (h : wpStill P ops w K (⟨o.dst, o.op, o.type, o.pos, o.after, none⟩ :: rest) (putsL a l)) : wpStill P ops w K (o :: rest) (putsL a l) := by
  have hv' : (putsL a l).tmps.getD dj undef = .bool b := hv
  have hy : yielded ops (putsL a l).tmps j = some b := by
    unfold yielded
    simp only [hj, Option.bind_some, hd]
    rw [Array.getD_eq_getD_getElem?] at hv'
    cases hq : (putsL a l).tmps[dj]? with
    | none => rw [hq] at hv'; simp [undef] at hv'
    | some v => rw [hq] at hv'; simp at hv'; subst hv'; rfl
  unfold wpStill at h ⊢
  have h1 : Region.wanted o (yielded ops (putsL a l).tmps) = true := by simp [Region.wanted, hg, hy]
  have h2 : Region.wanted ⟨o.dst, o.op, o.type, o.pos, o.after, none⟩ (yielded ops (putsL a l).tmps) = true := rfl
  rw [if_pos h2] at h
  rw [if_pos h1]
  exact h
theorem st_g_false {o oj : Oper} {j dj dd : Nat} {b c : Bool} (hg : o.guard = some (j, b)) (hj : ops[j]? = some oj) (hd : oj.dst = some dj) (hv : (putsL a l).eval (.tmp dj) = .bool c) (hne : (c == b) = false) (hdd : o.dst = some dd)
    (h : wpStill P ops w K rest (putsL a ((dd, undef) :: l))) : wpStill P ops w K (o :: rest) (putsL a l) := by
  have hv' : (putsL a l).tmps.getD dj undef = .bool c := hv
  have hy : yielded ops (putsL a l).tmps j = some c := by
    unfold yielded
    simp only [hj, Option.bind_some, hd]
    rw [Array.getD_eq_getD_getElem?] at hv'
    cases hq : (putsL a l).tmps[dj]? with
    | none => rw [hq] at hv'; simp [undef] at hv'
    | some v => rw [hq] at hv'; simp at hv'; subst hv'; rfl
  unfold wpStill
  have h1 : Region.wanted o (yielded ops (putsL a l).tmps) = false := by
    simp only [Region.wanted, hg, hy]
    cases c <;> cases b <;> simp_all
  simp only [h1, Bool.false_eq_true, if_false, hdd]
  exact h
theorem st_g_undef {o oj : Oper} {j dj dd : Nat} {b : Bool} (hg : o.guard = some (j, b)) (hj : ops[j]? = some oj) (hd : oj.dst = some dj) (hv : (putsL a l).eval (.tmp dj) = undef) (hdd : o.dst = some dd)
    (h : wpStill P ops w K rest (putsL a ((dd, undef) :: l))) : wpStill P ops w K (o :: rest) (putsL a l) := by
  have hv' : (putsL a l).tmps.getD dj undef = undef := hv
  have hy : yielded ops (putsL a l).tmps j = none := by
    unfold yielded
    simp only [hj, Option.bind_some, hd]
    rw [Array.getD_eq_getD_getElem?] at hv'
    cases hq : (putsL a l).tmps[dj]? with
    | none => rfl
    | some v => rw [hq] at hv'; simp at hv'; subst hv'; rfl
  unfold wpStill
  have h1 : Region.wanted o (yielded ops (putsL a l).tmps) = false := by
    simp [Region.wanted, hg, hy]
  simp only [h1, Bool.false_eq_true, if_false, hdd]
  exact h
theorem getD_mem {α : Type} {l : List α} {i : Nat} {d : α} (h : i < l.length) : l.getD i d ∈ l := by simp [h]
theorem el_ll {α : Type} {l : List (Value × α)} {e : Int} {i : Nat} {d : Value × α} (he : e = (i : Int)) (h : i < l.length) : (l.flatMap (fun x9 => [x9.1]))[e.toNat * 1 + 0]? = some (l.getD i d).1 := by
  subst he
  rw [flat_get (sz := 1) (by decide) l (fun _ _ => rfl)]
  simp [h, Nat.mod_one]
/-- the region, told in the text's order -/
theorem reg_still {id : Nat} {ol : List Oper} (hm : P.follows .mixedOrders = true) (hB : Region.lexB .any ol.toArray = true)
    (h : ∀ w', w.grownBy w' none → wpStill P ol.toArray w' (fun a' => Q .normal a' w') ol (putsL a l)) : (Code.region id ol.toArray true).wp P Q (putsL a l) w :=
  wp_region_still_lit hm hB (h _ ⟨rfl, rfl, rfl, Nat.le_refl _, fun _ _ _ => rfl⟩)
theorem reg_still_tail {id : Nat} {ol hd tl : List Oper} (n : Nat) (hm : P.follows .mixedOrders = true) (hB : Region.lexTailB .any ol.toArray n = true) (h1 : hd ++ tl = ol) (h2 : hd.length = n)
    (h : ∀ w', w.grownBy w' none → wpStill P ol.toArray w' (fun a' => wpList P ol.toArray Q tl a' w') hd (putsL a l)) : (Code.region id ol.toArray true).wp P Q (putsL a l) w :=
  wp_region_still_tail n hm hB (by rw [← h1, ← h2, List.take_left, List.drop_left, h1]; exact h _ ⟨rfl, rfl, rfl, Nat.le_refl _, fun _ _ _ => rfl⟩)
end
end Go.Gx

/- Small laws for walks, the twentieth part: a region whose first operations come in any order, and the others behind them, one by one. -/
namespace Go.Gx
open Go.RowKit
/-- A region's operations in any order. -/
def RegAny (P : Program) (ol : List Oper) (Q : Exit → Act → World → Prop) (a : Act) (w : World) : Prop :=
  wpAny P .any ol.toArray Q ol.length (Array.replicate ol.length false) a { w with drawn := w.drawn + 1 }
theorem reg_of_any {P : Program} {id : Nat} {ol : List Oper} {Q : Exit → Act → World → Prop} {a : Act} {w : World} (hm : P.follows .mixedOrders = true) (h : RegAny P ol Q a w) : (Code.region id ol.toArray true).wp P Q a w :=
  wp_region_any hm (by simpa [RegAny] using h)
/-- The first k operations are done; the others come in any order. -/
def AnyFrom (P : Program) (ol : List Oper) (Q : Exit → Act → World → Prop) (k : Nat) (a : Act) (w : World) : Prop :=
  wpAny P .any ol.toArray Q (ol.length - k) (Array.replicate k true ++ Array.replicate (ol.length - k) false) a w
/-- Those from m on wait for all below m. -/
def restB (ol : List Oper) (m : Nat) : Bool :=
  Region.sinkB .any ol.toArray m && (List.range ol.length).all (fun t => decide (t ≤ m) || (List.range ol.length).any fun s => decide (m ≤ s) && Region.waitsFor .any ol.toArray t s)
/-- What is asked of the parts: all of the first are waited for, and nothing of the others comes ahead of that. -/
def splitB (ol : List Oper) (m : Nat) : Bool :=
  Nat.blt m ol.length && restB ol m && lexB' ol && (ol.take m).all (fun o => match o.guard with | some (j, _) => Nat.blt j m | none => true)
section
variable {P : Program} {Q : Exit → Act → World → Prop} {A B : List Oper}
theorem upon_split {o : Oper} {a : Act} {w : World} {K K' : Act → World → Prop} {Q1 : Exit → Act → World → Prop} (hk : ∀ a w, K a w → K' a w) (hq : ∀ e a w, Q1 e a w → e = .normal) (h : o.wp P a w K Q1 ∨ (o.asks P a w ∧ LetsOut Q1)) : o.wp P a w K' Q ∨ (o.asks P a w ∧ LetsOut Q) := by
  rcases h with h | ⟨_, a1, w1, h1⟩
  · refine .inl ?_
    unfold Oper.wp at *
    generalize (execOp a.eval o).run P w = r at *
    cases r with
    | ok n w' =>
      cases n <;> simp only [Oper.upon] at h ⊢ <;>
        first
          | exact hk _ _ h
          | exact Calls.mono h (fun e w'' he => by
              cases e with
              | returned v => exact hk _ _ he
              | panicked c => exact absurd (hq _ _ _ he) (by simp)
              | outgrown => obtain ⟨a1, w1, h1⟩ := he; exact absurd (hq _ _ _ h1) (by simp))
          | exact Rows.mono h (fun _ _ he => hk _ _ he)
    | halt x w' => cases x <;> simp only [Oper.upon] at h ⊢ <;> exact absurd (hq _ _ _ h) (by simp)
  · exact absurd (hq _ _ _ h1) (by simp)
theorem get_left {i : Nat} (h : i < A.length) : (A ++ B).toArray[i]? = A.toArray[i]? := by simp [List.getElem?_append_left h]
theorem gd_left {listed : Array Bool} {n i : Nat} {d : Bool} (h : i < listed.size) : (listed ++ Array.replicate n false).getD i d = listed.getD i d := by
  simp [Array.getD_eq_getD_getElem?, Array.getElem?_append_left h]
theorem gd_right {listed : Array Bool} {n i : Nat} (h : listed.size ≤ i) : (listed ++ Array.replicate n false).getD i false = false := by
  rw [Array.getD_eq_getD_getElem?, Array.getElem?_append_right h]
  rcases Nat.lt_or_ge (i - listed.size) n with h1 | h1
  · simp [h1]
  · simp [h1]
theorem split_steps (hs : splitB (A ++ B) A.length = true) : ∀ (f : Nat) (listed : Array Bool) (a : Act) (w : World), listed.size = A.length →
    (∀ j o, A[j]? = some o → listed.getD j true = true → ∀ e ∈ o.after, Region.binds .any e = true → listed.getD e.on false = true) → (List.range A.length).countP (fun i => !listed.getD i true) = f →
    wpAny P .any A.toArray (fun e a w => e = .normal ∧ AnyFrom P (A ++ B) Q A.length a w) f listed a w → wpAny P .any (A ++ B).toArray Q (f + B.length) (listed ++ Array.replicate B.length false) a w := by
  simp only [splitB, restB, Bool.and_eq_true, Nat.blt_eq, List.length_append] at hs
  obtain ⟨⟨⟨hlt, hsink, hchain⟩, hlex⟩, hgd⟩ := hs
  have hlen : A.length + B.length - A.length = B.length := by omega
  rw [List.take_left] at hgd
  intro f
  induction f with
  | zero =>
    intro listed a w hsz hcl hc H
    have hall : listed = Array.replicate A.length true := by
      apply Array.ext
      · simp [hsz]
      · intro i h1 h2
        have hz := List.countP_eq_zero.1 hc i (by simpa using h2)
        simp [Array.getD_eq_getD_getElem?, h1] at hz
        simp [hz]
    subst hall
    have := H.2.2
    unfold AnyFrom at this
    rw [List.length_append, hlen] at this
    rwa [Nat.zero_add]
  | succ f ih =>
    intro listed a w hsz hcl hc H
    -- one of the first is not there yet
    have hex : ∃ i, i < A.length ∧ listed.getD i true = false := by
      refine Decidable.by_contra fun hn => ?_
      have : (List.range A.length).countP (fun i => !listed.getD i true) = 0 := by
        rw [List.countP_eq_zero]
        intro i hi hb
        exact hn ⟨i, by simpa using hi, by simpa using hb⟩
      omega
    have hloc : ∀ i, i < A.length → ∀ o, A[i]? = some o → ∀ e ∈ o.after, Region.binds .any e = true → e.on < i := by
      intro i hi o ho e he hb
      have h1 := List.all_eq_true.1 hlex i (by simp; omega)
      simp only [List.getElem?_append_left hi, ho, Array.all_eq_true_iff_forall_mem, Bool.or_eq_true, Bool.not_eq_true', Nat.blt_eq] at h1
      exact (h1 e he).resolve_left (by simp [hb])
    have hfirst : ∃ i, i ∈ Region.ready .any A.toArray listed := by
      obtain ⟨i, hi, hf⟩ := hex
      induction i using Nat.strongRecOn with
      | _ i ihi =>
        by_cases hr : i ∈ Region.ready .any A.toArray listed
        · exact ⟨i, hr⟩
        · rw [mem_ready] at hr
          have : ¬ ∀ e ∈ A[i].after, Region.binds .any e = true → listed.getD e.on false = true := fun hh => hr ⟨hf, A[i], by simp [hi], hh⟩
          simp only [Classical.not_forall] at this
          obtain ⟨e, he, hb, hne⟩ := this
          have hlo := hloc i hi A[i] (by simp [hi]) e he hb
          exact ihi e.on hlo (by omega) (by
            rw [← Bool.not_eq_true]; intro hh; exact hne (getD_true_lt hh (by omega)))
    -- what is ready, is one of the first
    have hready : ∀ i, i ∈ Region.ready .any (A ++ B).toArray (listed ++ Array.replicate B.length false) → i ∈ Region.ready .any A.toArray listed := by
      intro i hi
      obtain ⟨hun, o, ho, hw⟩ := mem_ready.1 hi
      rcases Nat.lt_or_ge i A.length with hia | hia
      · rw [gd_left (by omega)] at hun
        rw [get_left hia] at ho
        refine mem_ready.2 ⟨hun, o, ho, fun e he hb => ?_⟩
        have := hw e he hb
        have hlo := hloc i hia o (by simpa using ho) e he hb
        rwa [gd_left (by omega)] at this
      · exfalso
        rcases Nat.lt_or_ge A.length i with h1 | h1
        · have hin : i < A.length + B.length := by have := (Array.getElem?_eq_some_iff.1 ho).1; simpa using this
          have h2 := List.all_eq_true.1 hchain i (by simp; omega)
          simp only [Bool.or_eq_true, decide_eq_true_eq] at h2
          obtain ⟨q, hq1, hq2⟩ := List.any_eq_true.1 (h2.resolve_left (by omega))
          simp only [Bool.and_eq_true, decide_eq_true_eq] at hq2
          obtain ⟨oj, hoj, e, he, hb, hon⟩ := Region.waitsFor_spec hq2.2
          rw [ho] at hoj; cases hoj
          have := hw e he hb
          rw [hon, gd_right (by omega)] at this
          cases this
        · have : i = A.length := by omega
          subst this
          obtain ⟨i0, hi0, hf0⟩ := hex
          -- the last that is not there is waited for
          have hup : ∀ k i, A.length - i = k → i < A.length → listed.getD i true = false → False := by
            intro k
            induction k using Nat.strongRecOn with
            | _ k ihk =>
              intro i hk hi hf
              have h3 := List.all_eq_true.1 hsink i (by simpa using hi)
              obtain ⟨j, hj, h4⟩ := List.any_eq_true.1 h3
              simp only [Bool.and_eq_true, decide_eq_true_eq, List.mem_range] at h4 hj
              obtain ⟨oj, hoj, e, he, hb, hon⟩ := Region.waitsFor_spec h4.2
              rcases Nat.lt_or_ge j A.length with hja | hja
              · refine ihk (A.length - j) (by omega) j rfl hja ?_
                rw [← Bool.not_eq_true]
                intro hh
                rw [get_left hja] at hoj
                have := hcl j oj (by simpa using hoj) hh e he hb
                rw [hon] at this
                have h5 : listed.getD i true = true := by
                  rw [Array.getD_eq_getD_getElem?] at this ⊢
                  cases hq : listed[i]? with
                  | none => simp [hq] at this
                  | some b => simpa [hq] using this
                rw [hf] at h5; cases h5
              · have : j = A.length := by omega
                subst this
                rw [ho] at hoj; cases hoj
                have := hw e he hb
                rw [hon, gd_left (by omega)] at this
                have h5 : listed.getD i true = true := by
                  rw [Array.getD_eq_getD_getElem?] at this ⊢
                  cases hq : listed[i]? with
                  | none => simp [hq] at this
                  | some b => simpa [hq] using this
                rw [hf] at h5; cases h5
          exact hup _ i0 rfl hi0 hf0
    have hready' : ∀ i, i ∈ Region.ready .any A.toArray listed → i ∈ Region.ready .any (A ++ B).toArray (listed ++ Array.replicate B.length false) := by
      intro i hi
      obtain ⟨hun, o, ho, hw⟩ := mem_ready.1 hi
      have hia : i < A.length := by have := (Array.getElem?_eq_some_iff.1 ho).1; simpa using this
      refine mem_ready.2 ⟨by rw [gd_left (by omega)]; exact hun, o, by rw [get_left hia]; exact ho, fun e he hb => ?_⟩
      have hlo := hloc i hia o (by simpa using ho) e he hb
      rw [gd_left (by omega)]
      exact hw e he hb
    rw [show f + 1 + B.length = (f + B.length) + 1 by omega]
    refine ⟨fun hr => ?_, fun i hi => ?_⟩
    · obtain ⟨i, hi⟩ := hfirst
      have := hready' i hi
      rw [hr] at this
      cases this
    · have hiA := hready i hi
      have H2 := H.2 i hiA
      obtain ⟨hun, o, ho, hw⟩ := mem_ready.1 hiA
      have hia : i < A.length := by have := (Array.getElem?_eq_some_iff.1 ho).1; simpa using this
      have hoA : A[i]? = some o := by simpa using ho
      have hstep : ∀ a' w', wpAny P .any A.toArray (fun e a w => e = .normal ∧ AnyFrom P (A ++ B) Q A.length a w) f (listed.setIfInBounds i true) a' w' →
          wpAny P .any (A ++ B).toArray Q (f + B.length) ((listed ++ Array.replicate B.length false).setIfInBounds i true) a' w' := by
        intro a' w' hh
        have e1 : (listed ++ Array.replicate B.length false).setIfInBounds i true = listed.setIfInBounds i true ++ Array.replicate B.length false := by
          rw [Array.setIfInBounds_append_left (by omega)]
        rw [e1]
        refine ih _ a' w' (by simp [hsz]) (fun j oj hoj hl e he hb => ?_) ?_ hh
        · refine getD_set_true ?_
          by_cases hji : j = i
          · subst hji
            rw [hoA] at hoj; cases hoj
            exact hw e he hb
          · rw [getD_set_ne true (Ne.symm hji)] at hl
            exact hcl j oj hoj hl e he hb
        · have hc' : (List.range A.length).countP (fun j => !(listed.setIfInBounds i true).getD j true) + 1 = (List.range A.length).countP (fun j => !listed.getD j true) := by
            have hmem : i ∈ List.range A.length := by simpa using hia
            have hnd : (List.range A.length).Nodup := List.nodup_range
            generalize List.range A.length = L at hmem hnd
            clear hc H H2 hh ih
            induction L with
            | nil => cases hmem
            | cons x L ihL =>
              have hnd' := List.nodup_cons.1 hnd
              rw [List.countP_cons, List.countP_cons]
              rcases List.mem_cons.1 hmem with rfl | hm
              · have e2 : L.countP (fun j => !(listed.setIfInBounds i true).getD j true) = L.countP (fun j => !listed.getD j true) := by
                  refine List.countP_congr fun j hj => ?_
                  have hne : i ≠ j := fun e => hnd'.1 (by rw [e]; exact hj)
                  rw [getD_set_ne true hne]
                have e3 : (listed.setIfInBounds i true).getD i true = true := by simp [Array.getD_eq_getD_getElem?, hsz, hia]
                rw [e2, e3, hun]; simp
              · have hne : i ≠ x := fun e => hnd'.1 (by rw [← e]; exact hm)
                rw [getD_set_ne true hne]
                have := ihL hm hnd'.2
                omega
          omega
      unfold wpOp at H2 ⊢
      have hoAB : (A ++ B).toArray[i]? = some o := by rw [get_left hia]; exact ho
      simp only [ho, hoAB] at H2 ⊢
      have hy : Region.wanted o (yielded (A ++ B).toArray a.tmps) = Region.wanted o (yielded A.toArray a.tmps) := by
        have hg := List.all_eq_true.1 hgd o (List.mem_of_getElem? hoA)
        unfold Region.wanted
        cases hgu : o.guard with
        | none => rfl
        | some jb =>
          obtain ⟨j, b⟩ := jb
          simp only [hgu, Nat.blt_eq] at hg
          simp only [yielded, get_left (A := A) (B := B) hg]
      rw [hy]
      split
      · rename_i hwt
        rw [if_pos hwt] at H2
        exact upon_split hstep (fun e a w h => h.1) H2
      · rename_i hwt
        rw [if_neg hwt] at H2
        exact hstep _ _ H2
/-- The first part of a region in any order, then the others. -/
theorem reg_split {id : Nat} {ol hd tl : List Oper} {a : Act} {w : World} (m : Nat) (hm : P.follows .mixedOrders = true) (hs : splitB ol m = true) (h1 : hd ++ tl = ol) (h2 : hd.length = m)
    (h : RegAny P hd (fun e a w => e = .normal ∧ AnyFrom P ol Q m a w) a w) : (Code.region id ol.toArray true).wp P Q a w := by
  subst h1; subst h2
  refine reg_of_any hm ?_
  have := split_steps (P := P) (Q := Q) hs hd.length (Array.replicate hd.length false) a { w with drawn := w.drawn + 1 } (by simp) (fun j o hj hl => by
    have : j < hd.length := (List.getElem?_eq_some_iff.1 hj).1
    simp [Array.getD_eq_getD_getElem?, this] at hl) (by
    have : (List.range hd.length).countP (fun i => !(Array.replicate hd.length false).getD i true) = (List.range hd.length).length := by
      rw [List.countP_eq_length]
      intro i hi
      have hi' : i < hd.length := by simpa using hi
      simp [Array.getD_eq_getD_getElem?, hi']
    simpa using this) h
  unfold RegAny
  have e : Array.replicate (hd ++ tl).length false = Array.replicate hd.length false ++ Array.replicate tl.length false := by
    rw [List.length_append, Array.replicate_append_replicate]
  rw [e, List.length_append]
  exact this
theorem split_end {ol : List Oper} {m : Nat} {a : Act} {w : World} (h : AnyFrom P ol Q m a w) : (fun e a w => e = Exit.normal ∧ AnyFrom P ol Q m a w) .normal a w := ⟨rfl, h⟩
/-- A region from its beginning. -/
theorem reg_from {id : Nat} {ol : List Oper} {a : Act} {w : World} (hm : P.follows .mixedOrders = true) (h : ∀ w', w.grownBy w' none → AnyFrom P ol Q 0 a w') : (Code.region id ol.toArray true).wp P Q a w := by
  refine reg_of_any hm ?_
  have := h { w with drawn := w.drawn + 1 } ⟨rfl, rfl, rfl, Nat.le_refl _, fun _ _ _ => rfl⟩
  unfold AnyFrom at this
  unfold RegAny
  simpa using this
end
section
variable {P : Program} {ol : List Oper} {Q : Exit → Act → World → Prop} {Φ : Nat → Nat → Value → Value → World → Prop} {C : Nat → Value → World → Prop} {ch : Chain} {v0 : Value} {a0 : Act} {N : Nat}
theorem any_chain (ch : Chain) (v0 : Value) (hlex : lexB' ol = true) (hdn : dstNB ol N = true) (hdst : dstsB ol = true) (hch : ch.okB ol = true)
    {l : List (Nat × Value)} {w : World} (hN : a0.tmps.size = N)
    (hΦ0 : ∀ j c v u w1 w2, w1.grownBy w2 none → Φ j c v u w1 → Φ j c v u w2) (hΦ1 : ∀ j c v v' u w1 w2, c < ch.ops.length → StepC v v' w1 w2 → Φ j c v u w1 → Φ j (c + 1) v' u w2)
    (hC : ∀ c v w1 w2, w1.grownBy w2 none → C c v w1 → C c v w2) (hCl : ∀ c v w, C c v w → ∀ k, v.ownBlock = some k → k < w.heap.size)
    (hC0 : C 0 v0 w)
    (obN : ∀ i o, ol[i]? = some o → ch.has i = false → ObNc P ol Φ ch v0 (putsL a0 l) N w i o) (obC : ∀ c i o, ch.ops[c]? = some i → ol[i]? = some o → ObCc P ol Φ C ch v0 (putsL a0 l) N w c i o)
    (fin : ∀ a' w' v, a'.tmps.size = N → a'.defers = a0.defers → (∀ t, (ol.all fun o => o.dst != some t) = true → a'.tmps.getD t undef = (putsL a0 l).tmps.getD t undef) →
      (∀ j oj d, ol[j]? = some oj → oj.dst = some d → Φ j ch.ops.length v (a'.tmps.getD d undef) w') → C ch.ops.length v w' → w.grownBy w' v0.ownBlock → (v.ownBlock = v0.ownBlock ∨ ∀ k, v.ownBlock = some k → w.heap.size ≤ k) → Q .normal (putsL a' []) w') :
    RegAny P ol Q (putsL a0 l) w := by
  have hd : w.grownBy { w with drawn := w.drawn + 1 } none := ⟨rfl, rfl, rfl, Nat.le_refl _, fun _ _ _ => rfl⟩
  have I : RInc ol Φ C ch v0 (putsL a0 l) N w (Array.replicate ol.length false) 0 (putsL a0 l) { w with drawn := w.drawn + 1 } := by
    refine ⟨slN hN, rfl, fun _ _ => rfl, fun j o d hj hl => ?_, fun j o hj hl => ?_, by simp, Nat.zero_le _, fun m i hm => ?_, hC _ _ _ _ hd hC0, grown_any hd _, .inl rfl⟩
    · have : j < ol.length := (List.getElem?_eq_some_iff.1 hj).1
      simp [Array.getD_eq_getD_getElem?, this] at hl
    · have : j < ol.length := (List.getElem?_eq_some_iff.1 hj).1
      simp [Array.getD_eq_getD_getElem?, this] at hl
    · have h3 : i < ol.length := by
        have hch' := hch
        simp only [Chain.okB, Bool.and_eq_true] at hch'
        have := List.all_eq_true.1 hch'.1.2 i (List.mem_of_getElem? hm)
        simpa [Nat.blt_eq] using this
      simp [Array.getD_eq_getD_getElem?, h3]
  exact region_chain_steps (P := P) (Q := Q) hlex hdn hdst hch w hΦ0 hΦ1 hC hCl obN obC (fun a' w' J => fin a' w' _ J.size (by rw [J.defers, putsL_defers]) (fun t ht => J.base t fun j o hj _ hd => by
      have := List.all_eq_true.1 ht o (List.mem_of_getElem? hj)
      simp [hd] at this) (fun j oj d hj hd => J.phi j oj d hj (by
        have : j < ol.length := (List.getElem?_eq_some_iff.1 hj).1
        simp [Array.getD_eq_getD_getElem?, this]) hd) J.chainC J.rel J.own) ol.length (Array.replicate ol.length false) 0 _ _ I (Nat.le_trans (List.countP_le_length) (by simp))
end
section
variable {P : Program} {ol : List Oper} {Q : Exit → Act → World → Prop} {Φ : Nat → Value → World → Prop} {a0 : Act} {N : Nat} {l : List (Nat × Value)} {w : World}
theorem any_quiet (hlex : lexB' ol = true) (hdn : dstNB ol N = true) (hdst : dstsB ol = true) (hN : a0.tmps.size = N)
    (hΦ : ∀ j u w1 w2, w1.grownBy w2 none → Φ j u w1 → Φ j u w2)
    (obN : ∀ i o, ol[i]? = some o → ObN P ol Φ (putsL a0 l) N w (fun w1 w2 => w1.grownBy w2 none) i o)
    (fin : ∀ a' w', a'.tmps.size = N → a'.defers = a0.defers → (∀ t, (ol.all fun o => o.dst != some t) = true → a'.tmps.getD t undef = (putsL a0 l).tmps.getD t undef) →
      (∀ j oj d, ol[j]? = some oj → oj.dst = some d → Φ j (a'.tmps.getD d undef) w') → w.grownBy w' none → Q .normal (putsL a' []) w') : RegAny P ol Q (putsL a0 l) w := by
  have hd : w.grownBy { w with drawn := w.drawn + 1 } none := ⟨rfl, rfl, rfl, Nat.le_refl _, fun _ _ _ => rfl⟩
  have I : RInv ol Φ (fun _ _ _ => True) (noChain N) (putsL a0 l) N w (fun w1 w2 => w1.grownBy w2 none) (Array.replicate ol.length false) 0 (putsL a0 l) { w with drawn := w.drawn + 1 } := by
    refine ⟨slN hN, rfl, fun _ _ => rfl, fun j o d hj hl => ?_, fun j o hj hl => ?_, by simp, Nat.zero_le _, fun m i hm => by simp [noChain] at hm, trivial, hd⟩
    · have : j < ol.length := (List.getElem?_eq_some_iff.1 hj).1
      simp [Array.getD_eq_getD_getElem?, this] at hl
    · have : j < ol.length := (List.getElem?_eq_some_iff.1 hj).1
      simp [Array.getD_eq_getD_getElem?, this] at hl
  exact region_any_steps (P := P) (Q := Q) (Φ := Φ) (R := fun w1 w2 => w1.grownBy w2 none) (C := fun _ _ _ => True) (ch := noChain N) hlex hdn hdst (noChain_ok hdn) w (fun _ _ _ => grown_trans) (fun _ _ h => h) hΦ (fun _ _ _ _ _ h => h) (fun i o hi _ => obN i o hi) (fun c i o hc _ => by simp [noChain] at hc) (fun a' w' J => fin a' w' J.size (by rw [J.defers, putsL_defers]) (fun t ht => J.base t fun j o hj _ hd => by
      have := List.all_eq_true.1 ht o (List.mem_of_getElem? hj)
      simp [hd] at this) (fun j oj d hj hd => J.phi j oj d hj (by
        have : j < ol.length := (List.getElem?_eq_some_iff.1 hj).1
        simp [Array.getD_eq_getD_getElem?, this]) hd) J.rel) ol.length (Array.replicate ol.length false) 0 _ _ I (Nat.le_trans (List.countP_le_length) (by simp))
end
end Go.Gx

/- Small laws for walks, the twenty-first part: a region told part by part: single operations, and blocks in any order that leave the world as it is. -/
namespace Go.Gx
open Go.RowKit
def blockB (ol : List Oper) : Nat → Nat → Array Bool → Bool
  | 0, _, _ => true
  | n + 1, k, listed => (Region.ready .any ol.toArray listed).contains k && Region.free .any ol.toArray listed k && blockB ol n (k + 1) (listed.setIfInBounds k true)
/-- A block of n operations from k on. -/
def stillB (ol : List Oper) (k n : Nat) : Bool :=
  Region.noSelect ol.toArray && lexB' ol && Nat.ble (k + n) ol.length && (restB ol (k + n) || Nat.beq (k + n) ol.length) && blockB ol n k (Array.replicate k true ++ Array.replicate (ol.length - k) false)
def oneB (ol : List Oper) (k : Nat) : Bool := Nat.blt k ol.length && decide (Region.ready .any ol.toArray (Array.replicate k true ++ Array.replicate (ol.length - k) false) = [k])
section
variable {P : Program} {Q : Exit → Act → World → Prop} {ol : List Oper} {w : World}
theorem listed_set {k N : Nat} (h : k < N) : (Array.replicate k true ++ Array.replicate (N - k) false).setIfInBounds k true = Array.replicate (k + 1) true ++ Array.replicate (N - (k + 1)) false := by
  apply Array.ext
  · simp; omega
  · intro i h1 h2
    have h1' : i < (Array.replicate k true ++ Array.replicate (N - k) false).size := by simpa using h1
    rw [Array.getElem_setIfInBounds h1']
    by_cases hi : k = i
    · subst hi; rw [if_pos rfl, Array.getElem_append_left (by simp)]; simp
    · rw [if_neg hi]
      rcases Nat.lt_or_ge i k with h3 | h3
      · rw [Array.getElem_append_left (by simpa using h3), Array.getElem_append_left (by simp; omega)]; simp
      · rw [Array.getElem_append_right (by simpa using h3), Array.getElem_append_right (by simp; omega)]; simp
theorem from_end {a : Act} (h : Q .normal a w) {k : Nat} (hk : ol.length = k) : AnyFrom P ol Q k a w := by
  subst hk
  unfold AnyFrom
  rw [Nat.sub_self]
  refine ⟨?_, h⟩
  rw [List.eq_nil_iff_forall_not_mem]
  intro i hi
  obtain ⟨h1, o, ho, _⟩ := mem_ready.1 hi
  have hl : i < ol.length := by simpa using (Array.getElem?_eq_some_iff.1 ho).1
  simp [Array.getD_eq_getD_getElem?, hl] at h1
theorem from_one {a : Act} {k k' : Nat} {o : Oper} (hB : oneB ol k = true) (hk' : k + 1 = k') (ho : ol[k]? = some o) (h : wpList P ol.toArray (fun e a' w' => e = .normal ∧ AnyFrom P ol Q k' a' w') [o] a w) : AnyFrom P ol Q k a w := by
  subst hk'
  simp only [oneB, Bool.and_eq_true, Nat.blt_eq, decide_eq_true_eq] at hB
  obtain ⟨hk, hr⟩ := hB
  unfold AnyFrom
  obtain ⟨f, hf⟩ : ∃ f, ol.length - k = f + 1 := ⟨ol.length - k - 1, by omega⟩
  have e1 : ol.length - (k + 1) = f := by omega
  have key : wpAny P .any ol.toArray Q (f + 1) (Array.replicate k true ++ Array.replicate (ol.length - k) false) a w := by
    refine ⟨fun h0 => (by rw [hr] at h0; cases h0), fun i hi => ?_⟩
    rw [hr] at hi
    have : i = k := by simpa using hi
    subst this
    refine wp_one (by simpa using ho) h fun a' w' hh => ?_
    rw [listed_set hk]
    unfold AnyFrom at hh
    rw [e1] at hh ⊢
    exact hh
  have e2 : ∀ g, g = f + 1 → wpAny P .any ol.toArray Q g (Array.replicate k true ++ Array.replicate (ol.length - k) false) a w := fun g hg => by subst hg; exact key
  exact e2 _ hf
theorem from_next {a : Act} {k : Nat} (h : AnyFrom P ol Q k a w) : wpList P ol.toArray (fun e a' w' => e = .normal ∧ AnyFrom P ol Q k a' w') [] a w := ⟨rfl, h⟩
theorem from_seq {a : Act} {k : Nat} {tl : List Oper} (hk : k < ol.length) (hB : Region.seqB .any ol.toArray (ol.length - k) k (Array.replicate k true ++ Array.replicate (ol.length - k) false) = true) (h1 : ol.drop k = tl) (h : wpList P ol.toArray Q tl a w) : AnyFrom P ol Q k a w := by
  subst h1
  have hl : (ol.drop k).length = ol.length - k := by simp
  have := wpAny_of_seq (md := .any) (Q' := Q) (P := P) (ops := ol.toArray) (ol.drop k) k _ a w (fun j => by simp) (by rw [hl]; exact hB) h
  rw [hl] at this
  exact this
theorem rest_waits {m : Nat} {listed : Array Bool} (hr : restB ol m = true) (inv : HeadInv .any ol.toArray m listed) : ∀ (d i : Nat), m - i = d → i < m → listed.getD i true = false → ∀ t, m ≤ t → t ∉ Region.ready .any ol.toArray listed := by
  simp only [restB, Bool.and_eq_true] at hr
  obtain ⟨hs, hc⟩ := hr
  intro d
  induction d using Nat.strongRecOn with
  | _ d ih =>
    intro i hd hi hun t ht htr
    obtain ⟨_, ot, hot, hall⟩ := mem_ready.1 htr
    have htl : t < ol.length := by simpa using (Array.getElem?_eq_some_iff.1 hot).1
    rcases Nat.lt_or_ge m t with h1 | h1
    · have h2 := List.all_eq_true.1 hc t (List.mem_range.2 htl)
      simp only [Bool.or_eq_true, decide_eq_true_eq] at h2
      obtain ⟨s, hs1, hs2⟩ := List.any_eq_true.1 (h2.resolve_left (by omega))
      simp only [Bool.and_eq_true, decide_eq_true_eq] at hs2
      obtain ⟨o', ho', e, he, hb, hon⟩ := Region.waitsFor_spec hs2.2
      rw [hot] at ho'; cases ho'
      have h3 := hall e he hb
      rw [hon, getD_both (inv.tail s hs2.1 (by simpa using List.mem_range.1 hs1))] at h3
      cases h3
    · have : t = m := by omega
      subst this
      obtain ⟨j, hj, hj2⟩ := List.any_eq_true.1 (List.all_eq_true.1 hs i (List.mem_range.2 hi))
      simp only [Bool.and_eq_true, decide_eq_true_eq] at hj2
      obtain ⟨oj, hoj, e, he, hb, hon⟩ := Region.waitsFor_spec hj2.2
      have hjle := List.mem_range.1 hj
      by_cases hjt : j = t
      · subst hjt
        rw [hot] at hoj; cases hoj
        have h3 := hall e he hb
        rw [hon, getD_both hun] at h3
        cases h3
      · cases hl : listed.getD j false with
        | true =>
          have h3 := inv.closed j oj hoj hl e he hb
          rw [hon, getD_both hun] at h3
          cases h3
        | false => exact ih (t - j) (by omega) j rfl (by omega) (getD_in (by rw [inv.size]; simp; omega) hl) t (Nat.le_refl _) htr
/-- One operation of a block may be taken first. -/
theorem block_first {m i : Nat} {oi : Oper} {v : Value} {L : Array Bool → Act → Prop} (hi : ol.toArray[i]? = some oi) (hsel : ∀ (j : Nat) (o : Oper) cs b, ol.toArray[j]? = some o → o.op ≠ .select cs b)
    (hns : ∀ listed, HeadInv .any ol.toArray m listed → listed.getD i true = false → ∀ t, m ≤ t → t ∉ Region.ready .any ol.toArray listed) (hin : i < m) (hdone : ∀ listed a, L listed a → ∀ j ∈ Region.ready .any ol.toArray listed, m ≤ j) :
    ∀ (f : Nat) (listed : Array Bool) (a : Act), HeadInv .any ol.toArray m listed →
      (∀ j oj, ol.toArray[j]? = some oj → j ≠ i → listed.getD j true = false → (∀ e ∈ oj.after, Region.binds .any e = true → e.on ≠ i) → oi.apart ol.toArray oj = true) →
      i ∈ Region.ready .any ol.toArray listed → YieldsAt P ol.toArray w oi v a → wpAnyL P .any ol.toArray w m L f (listed.setIfInBounds i true) (a.put oi.dst v) → wpAnyL P .any ol.toArray w m L (f + 1) listed a := by
  intro f
  induction f with
  | zero =>
    intro listed a inv _ hr hy H
    have hun := (mem_ready.1 hr).1
    refine ⟨fun h => (by rw [h] at hr; cases hr), fun j hj => ?_⟩
    have hjm : j < m := Nat.lt_of_not_le fun h => hns listed inv hun j h hj
    refine ⟨hjm, ?_⟩
    by_cases hji : j = i
    · rw [hji]; exact hy.stOp hi H
    · exact absurd (hdone _ _ H j (ready_mono hj hji)) (by omega)
  | succ f ih =>
    intro listed a inv hfree hr hy H
    have hun := (mem_ready.1 hr).1
    refine ⟨fun h => (by rw [h] at hr; cases hr), fun j hj => ?_⟩
    have hjm : j < m := Nat.lt_of_not_le fun h => hns listed inv hun j h hj
    refine ⟨hjm, ?_⟩
    by_cases hji : j = i
    · rw [hji]; exact hy.stOp hi H
    · obtain ⟨hjun, oj, hoj, hall⟩ := mem_ready.1 hj
      have hap := hfree j oj hoj hji hjun fun e he hb heq => by
        have h9 := hall e he hb
        rw [heq, getD_both hun] at h9
        cases h9
      have h2 := stOp_put hoj hap (fun cs b => hsel i oi cs b hi) (fun cs b => hsel j oj cs b hoj) hy (H.2 j (ready_mono hj hji)).2
      refine stOp_mono (fun a' h3 => ih (listed.setIfInBounds j true) a' (inv.set hj hjm) (fun k ok hk hki huk hno => hfree k ok hk hki ?_ hno) (ready_mono hr (Ne.symm hji)) h3.1 ?_) h2
      · by_cases hjk : j = k
        · rw [← hjk]; exact hjun
        · rwa [getD_set_ne true hjk] at huk
      · rw [Array.setIfInBounds_comm _ _ hji]
        exact h3.2
theorem block_lex {m N : Nat} (hN : ol.length = N) (hsel : ∀ (j : Nat) (o : Oper) cs b, ol.toArray[j]? = some o → o.op ≠ .select cs b) (hns : ∀ i listed, i < m → HeadInv .any ol.toArray m listed → listed.getD i true = false → ∀ t, m ≤ t → t ∉ Region.ready .any ol.toArray listed)
    {K : Act → Prop} {L : Array Bool → Act → Prop} (hdone : ∀ listed a, L listed a → ∀ j ∈ Region.ready .any ol.toArray listed, m ≤ j) (hL : ∀ a, K a → L (Array.replicate m true ++ Array.replicate (N - m) false) a) (hmN : m ≤ N) :
    ∀ (l : List Oper) (k : Nat) (a : Act), (∀ j, j < l.length → l[j]? = ol[k + j]?) → k + l.length = m → HeadInv .any ol.toArray m (Array.replicate k true ++ Array.replicate (N - k) false) →
      blockB ol l.length k (Array.replicate k true ++ Array.replicate (N - k) false) = true → wpStill P ol.toArray w K l a → wpAnyL P .any ol.toArray w m L l.length (Array.replicate k true ++ Array.replicate (N - k) false) a
  | [], k, a, _, hk, _, _, h => by
    have : k = m := by simpa using hk
    subst this
    exact hL a h
  | o :: l, k, a, hl, hk, inv, hB, h => by
    have hkm : k < m := by simp only [List.length_cons] at hk; omega
    have h0 : ol.toArray[k]? = some o := by have := (hl 0 (by simp)).symm; simpa using this
    simp only [List.length_cons, blockB, Bool.and_eq_true] at hB
    obtain ⟨⟨hr, hf⟩, hB'⟩ := hB
    have hr' : k ∈ Region.ready .any ol.toArray (Array.replicate k true ++ Array.replicate (N - k) false) := by simpa using hr
    have hst : stOp P ol.toArray w k (wpStill P ol.toArray w K l) a := by unfold stOp; simp only [h0]; exact h
    obtain ⟨v, hy, hK⟩ := yieldsAt_of_stOp h0 hst
    have e := listed_set (k := k) (N := N) (by omega)
    rw [e] at hB'
    have inv' := inv.set hr' hkm
    rw [e] at inv'
    refine block_first h0 hsel (fun listed iv hu => hns k listed hkm iv hu) hkm hdone l.length _ a inv (Region.free_spec h0 hf) hr' hy ?_
    rw [e]
    exact block_lex hN hsel hns hdone hL hmN l (k + 1) _ (fun j hj => by have := hl (j + 1) (by simp; omega); simpa [Nat.add_assoc, Nat.add_comm 1 j] using this) (by simp only [List.length_cons] at hk; omega) inv' hB' hK
theorem from_still {a : Act} {k m : Nat} (n : Nat) {hd : List Oper} (hB : stillB ol k n = true) (hk' : k + n = m) (h1 : (ol.drop k).take n = hd) (h : wpStill P ol.toArray w (fun a' => AnyFrom P ol Q m a' w) hd a) : AnyFrom P ol Q k a w := by
  subst hk'
  simp only [stillB, Bool.and_eq_true, Nat.ble_eq, Bool.or_eq_true] at hB
  obtain ⟨⟨⟨⟨hsel, hlex⟩, hkn⟩, hrest⟩, hblk⟩ := hB
  have hlen : hd.length = n := by rw [← h1]; simp; omega
  have hidx : ∀ j, j < hd.length → hd[j]? = ol[k + j]? := fun j hj => by
    rw [← h1, List.getElem?_take, if_pos (by omega), List.getElem?_drop]
  have inv : HeadInv .any ol.toArray (k + n) (Array.replicate k true ++ Array.replicate (ol.length - k) false) := by
    refine ⟨by simp; omega, fun j oj hoj hl e he hb => ?_, fun t ht htl => ?_⟩
    · have hjl : j < ol.length := by simpa using (Array.getElem?_eq_some_iff.1 hoj).1
      have hjk : j < k := by
        rcases Nat.lt_or_ge j k with h3 | h3
        · exact h3
        · rw [gd_right (by simpa using h3)] at hl; cases hl
      have h4 := List.all_eq_true.1 hlex j (by simpa using hjl)
      have hoj' : ol[j]? = some oj := by simpa using hoj
      simp only [hoj', Array.all_eq_true_iff_forall_mem, Bool.or_eq_true, Bool.not_eq_true', Nat.blt_eq] at h4
      have h5 := (h4 e he).resolve_left (by simp [hb])
      rw [gd_left (by simp; omega)]
      simp [Array.getD_eq_getD_getElem?, show e.on < k by omega]
    · have htl' : t < ol.length := by simpa using htl
      rw [Array.getD_eq_getD_getElem?, Array.getElem?_append_right (by simp; omega)]
      simp [show t - k < ol.length - k by omega]
  have hns : ∀ i listed, i < k + n → HeadInv .any ol.toArray (k + n) listed → listed.getD i true = false → ∀ t, k + n ≤ t → t ∉ Region.ready .any ol.toArray listed := by
    intro i listed hi iv hu t ht htr
    rcases hrest with hr | he
    · exact rest_waits hr iv _ i rfl hi hu t ht htr
    · obtain ⟨_, ot, hot, _⟩ := mem_ready.1 htr
      have h6 : t < ol.length := by simpa using (Array.getElem?_eq_some_iff.1 hot).1
      have := Nat.eq_of_beq_eq_true he
      omega
  have H := block_lex (P := P) (w := w) (K := fun a' => AnyFrom P ol Q (k + n) a' w) (L := fun listed' a' => listed' = Array.replicate (k + n) true ++ Array.replicate (ol.length - (k + n)) false ∧ AnyFrom P ol Q (k + n) a' w) rfl (Region.noSelect_spec hsel) hns
    (fun listed a' hh j hj => by
      obtain ⟨rfl, _⟩ := hh
      obtain ⟨hju, oj, hoj, _⟩ := mem_ready.1 hj
      rcases Nat.lt_or_ge j (k + n) with h7 | h7
      · rw [gd_left (by simpa using h7)] at hju
        simp [Array.getD_eq_getD_getElem?, h7] at hju
      · exact h7) (fun a' hh => ⟨rfl, hh⟩) hkn hd k a hidx (by omega) inv (by rw [hlen]; exact hblk) h
  have := wpAny_of_head (P := P) (md := .any) (w := w) (Q' := Q) (g := ol.length - (k + n)) (fun listed a' hh => by obtain ⟨rfl, hh⟩ := hh; exact hh) _ _ _ H
  unfold AnyFrom
  rw [hlen, show n + (ol.length - (k + n)) = ol.length - k by omega] at this
  exact this
end
end Go.Gx

/- Small laws for walks, the twenty-second part: pointers held against nil, rows cut behind a place and copied into. -/
namespace Go.Gx
open Go.RowKit
section
variable {P : Program} {Q : Exit → Act → World → Prop} {a : Act} {w w' : World} {l : List (Nat × Value)} {ops : Array Oper} {rest : List Oper}
variable {d ty t e xt yt : Nat} {p : String} {af : Array Edge} {x y : Operand} {v : Value} {k : IntKind} {n base sz by_ b off : Nat} {cs ws : List Value} {zv : Value} {r : Int}
theorem run_peq (q : Option Addr) (ht : P.underlying xt = some (.pointer (P.pointee xt))) (hx : (putsL a l).eval x = .pointer q) (hy : (putsL a l).eval y = .pointer none) :
    (execOp (putsL a l).eval (⟨some d, .binOp .eql xt x y yt, ty, p, af, none⟩ : Oper)).run P w = .ok (.value (.bool q.isNone)) w := by
  have h1 := run_eql_pointer_nil (P := P) (w := w) xt q ht
  have hg : (eqGuard .eql xt x y (Value.pointer q) (Value.pointer none)).run P w = .ok () w := by simp [eqGuard]
  simp only [execOp, hx, hy]
  simp [h1, hg]
theorem op_peq_some (ht : P.underlying xt = some (.pointer (P.pointee xt))) (hx : (putsL a l).eval x = ptr b off) (hy : (putsL a l).eval y = .pointer none) (h : wpList P ops Q rest (putsL a ((d, .bool false) :: l)) w) :
    wpList P ops Q (⟨some d, .binOp .eql xt x y yt, ty, p, af, none⟩ :: rest) (putsL a l) w := op_gen rfl (run_peq (some ⟨b, off, none⟩) ht hx hy) h
theorem op_peq_none (ht : P.underlying xt = some (.pointer (P.pointee xt))) (hx : (putsL a l).eval x = .pointer none) (hy : (putsL a l).eval y = .pointer none) (h : wpList P ops Q rest (putsL a ((d, .bool true) :: l)) w) :
    wpList P ops Q (⟨some d, .binOp .eql xt x y yt, ty, p, af, none⟩ :: rest) (putsL a l) w := op_gen rfl (run_peq none ht hx hy) h
/-- A list from its element k on. -/
def cutV (v : Value) (k : Nat) : Value := match v with | .slice ad n c => .slice (if c = k then ad else ad.map (·.add k)) (n - k) (c - k) | x => x
theorem op_slice_cut {lo : Operand} {k : Nat} {kk : IntKind} (T : SlT P t e zv 1 by_) (hx : (putsL a l).eval x = v) (O : Own w base e 1 v n cs) (hl : (putsL a l).eval lo = .int kk r) (hr : r = (k : Int)) (hk : k ≤ n) (h : wpList P ops Q rest (putsL a ((d, cutV v k) :: l)) w) :
    wpList P ops Q (⟨some d, .slice t x (some lo) none none, ty, p, af, none⟩ :: rest) (putsL a l) w := by
  obtain ⟨inf, hi, hz0, hz1, hz2⟩ := info_parts T.info
  subst hr
  have R := O.rdw
  obtain ⟨hl0, ad, c, rfl, hnc, hcm, _⟩ := R
  have e1 : ¬ ((n : Int) < (k : Int)) := by omega
  have e2 : ¬ ((c : Int) < (n : Int)) := by omega
  have e3 : ¬ n < k := by omega
  have e4 : ¬ c < n := by omega
  refine op_gen (v := .slice (if c = k then ad else ad.map (·.add k)) (n - k) (c - k)) rfl ?_ h
  by_cases hck : c = k
  · subst hck
    have : n = c := by omega
    subst this
    simp [execOp, hx, hl, Instr.sliceAt, Instr.slice, run_underlying T.und, Instr.sliceBounds, Instr.sliceBound, asIntOf, sizeOf, typeInfo, hi, hz1]
  · simp [execOp, hx, hl, Instr.sliceAt, Instr.slice, run_underlying T.und, Instr.sliceBounds, Instr.sliceBound, asIntOf, sizeOf, typeInfo, hi, hz1, hk, hnc, hck]
/-- a list copied into one's own list from a place on -/
theorem op_copy_cut {dT sT : Nat} {by2 k m L B : Nat} {u : Value} (TT : SlT P dT e zv 1 by2) (hx : (putsL a l).eval x = cutV v k) (O : Own w base e 1 v n cs) (hy : (putsL a l).eval y = u) (R : RdC w L B 1 u m ws) (h1 : ws.all Value.oneCell' = true) (hm : k + m ≤ n)
    (h : ∀ w', Own w' base e 1 v n (cs.take k ++ ws ++ cs.drop (k + m)) → w.grownBy w' v.ownBlock → wpList P ops Q rest (putsL a ((d, .int .i64 (m : Int)) :: l)) w') :
    wpList P ops Q (⟨some d, .call ⟨.builtin .copy, #[x, y], #[dT, sT]⟩, ty, p, af, none⟩ :: rest) (putsL a l) w := by
  obtain ⟨i, hi, hz0, hz1, hz2⟩ := info_parts TT.info
  have hsz : (P.info? e).map (·.size) = some 1 := by simp [hi, hz1]
  obtain ⟨hl, ad, cc, rfl, hnc, _, hr⟩ := R
  rw [Nat.mul_one] at hl
  have zero : m = 0 → ∀ ad2 n2 c2, (Builtin.copy_ #[dT, sT] ty #[.slice ad2 n2 c2, .slice ad m cc]).run P w = .ok (goInt 0) w := by
    intro hm0 ad2 n2 c2
    subst hm0
    cases ad <;> cases ad2 <;> simp [Builtin.copy_, run_underlying TT.und, Builtin.lenOf, Builtin.firstCells, sizeOf, typeInfo, hi, storeCells, loadCells, loadCellsFrom]
  by_cases hm0 : m = 0
  · have hws : ws = [] := List.eq_nil_of_length_eq_zero (by omega)
    obtain ⟨hl0, ad0, c0, rfl, _⟩ := O.rdw
    refine op_gen (v := .int .i64 (m : Int)) (w' := w) rfl ?_ (h w (by subst hws; subst hm0; simpa using O) ⟨rfl, rfl, rfl, Nat.le_refl _, fun _ _ _ => rfl⟩)
    have hx2 : (putsL a l).eval x = .slice (if c0 = k then ad0 else ad0.map (·.add k)) (n - k) (c0 - k) := hx
    simp only [execOp, hx2, hy, resolve, invoke, builtin, Sem.run_bind, Sem.run_pure, Result.andThen_ok, List.map_toArray, List.map_cons, List.map_nil, zero hm0 _ _]
    subst hm0; rfl
  · have O' := O
    obtain ⟨hl0, ⟨rfl, rfl⟩ | ⟨g, off, cap, cur, fr, rfl, hb, hg, hf, hnc2, hcm, hfit, htk⟩⟩ := O
    · omega
    · have hkc : ¬ cap = k := by omega
      rcases hr with rfl | ⟨b2, off2, rfl, _, _, hc⟩
      · simp at hl; omega
      · obtain ⟨g1, g2, g3⟩ := own_setCells (n' := 0) O' (q := k) (vs := ws) (by omega) h1
        have hrun := run_copy_cells (P := P) w dT sT ty e g (off + k) (n - k) (cap - k) ⟨b2, off2, none⟩ m cc ws TT.und hsz (by rw [hl]; exact (Nat.min_eq_left (by omega)).symm)
          (fun j v hv => by rw [Addr.add_lit]; exact hc j v hv) g2 g3 (fun v hv => List.all_eq_true.1 h1 v hv)
        have hx2 : (putsL a l).eval x = .slice (some ⟨g, off + k, none⟩) (n - k) (cap - k) := by rw [hx]; simp [cutV, hkc, Addr.add_lit]
        refine op_gen (v := .int .i64 (m : Int)) (w' := w.setCells g (off + k) ws) rfl ?_ (h _ (by rw [← hl]; exact g1) (grown_setCells w g _ _))
        simp only [execOp, hx2, hy, resolve, invoke, builtin, Sem.run_bind, Sem.run_pure, Result.andThen_ok, List.map_toArray, List.map_cons, List.map_nil, hrun]
        rw [hl]; rfl
end
end Go.Gx

/- Small laws for walks, the twenty-third part: an object of one box and a row of its own; what an operation on it may change. -/
namespace Go.Gx
open Go.RowKit
section
variable {w w' w0 : World} {b p t tp e base base2 e2 sz sz2 n n2 k0 L B : Nat} {v u x vb : Value} {cs ws : List Value} {row : Option Nat}
/-- the block an operation on an object may change: its box as long as it is zero, then its row -/
def pgRow (p n : Nat) (vb : Value) : Option Nat := if n = 0 then some p else vb.ownBlock
def RowOr (u : Value) (row : Option Nat) (k0 : Nat) : Prop := u.ownBlock = row ∨ ∀ k, u.ownBlock = some k → k0 ≤ k
theorem grow_stepP (h : w0.grownBy w row) (E : w.grownBy w' v.ownBlock) (hr : RowOr v row w0.heap.size) : w0.grownBy w' row := by
  rcases hr with hr | hr
  · rw [hr] at E; exact grown_trans h E
  · refine ⟨E.os.trans h.os, E.tape.trans h.tape, E.output.trans h.output, Nat.le_trans h.size E.size, fun k hk hne => ?_⟩
    rw [E.block k (Nat.lt_of_lt_of_le hk h.size) (fun hh => by have := hr k hh.symm; omega)]
    exact h.block k hk hne
theorem RowOr.apart (hr : RowOr u row k0) (ha : ∀ k, row = some k → k < L ∨ B ≤ k) (hB : B ≤ k0) : ∀ k, u.ownBlock = some k → k < L ∨ B ≤ k := by
  intro k hk
  rcases hr with hr | hr
  · rw [hr] at hk; exact ha k hk
  · have := hr k hk; omega
theorem pgRow_some {k : Nat} (h : pgRow p n vb = some k) : k = p ∨ vb.ownBlock = some k := by
  unfold pgRow at h; split at h
  · exact .inl (Option.some.inj h).symm
  · exact .inr h
theorem Bx.ne {ws : List Value} (h : Bx w b t cs) (h2 : Bx w p tp ws) (hne : t ≠ tp) : b ≠ p := by
  rintro rfl
  have := h.symm.trans h2
  simp at this
  exact hne this.2
theorem Own.neB (O : Own w base e sz v n ws) (h : Bx w b t cs) (hne : t ≠ e) : v.ownBlock ≠ some b := by
  rcases O.2 with ⟨rfl, _⟩ | ⟨g, off, cap, cur, fr, rfl, hb, hg, _⟩
  · simp [Value.ownBlock]
  · intro hh
    simp only [Value.ownBlock, Option.some.injEq] at hh
    subst hh
    have := hg.symm.trans h
    simp at this
    exact hne this.2.1.symm
theorem Bx.keepP (h : Bx w b t cs) (hx : Bx w p tp ws) {us : List Value} (O : Own w base e sz vb n us) (E : w.grownBy w' (pgRow p n vb)) (ht : t ≠ tp) (he : t ≠ e) : Bx w' b t cs :=
  h.keep E fun hh => by
    rcases pgRow_some hh.symm with q | q
    · exact h.ne hx ht q
    · exact O.neB h he q
theorem Own.keepP (h : Own w base2 e2 sz2 u n2 cs) (hx : Bx w p tp ws) {us : List Value} (O : Own w base e sz vb n us) (E : w.grownBy w' (pgRow p n vb)) (ht : tp ≠ e2) (he : e2 ≠ e ∨ DJ u vb) : Own w' base2 e2 sz2 u n2 cs := by
  refine ⟨h.1, ?_⟩
  rcases h.2 with hn | ⟨g, off, cap, cur, fr, rfl, hb, hg, r⟩
  · exact .inl hn
  · refine .inr ⟨g, off, cap, cur, fr, rfl, hb, ?_, r⟩
    rw [E.block g (by have := (Array.getElem?_eq_some_iff.1 hg).1; exact this) (fun hh => ?_)]
    · exact hg
    · rcases pgRow_some hh.symm with q | q
      · exact h.neB hx ht (by rw [q]; rfl)
      · rcases he with he | he
        · rcases O.2 with ⟨rfl, _⟩ | ⟨g', off', cap', cur', fr', rfl, hb', hg2, _⟩
          · simp [Value.ownBlock] at q
          · simp only [Value.ownBlock, Option.some.injEq] at q
            subst q
            have := hg.symm.trans hg2
            simp at this
            exact he this.2.1
        · exact he g rfl q
theorem RdC.keepP {sz' : Nat} (h : RdC w L B sz' v n2 cs) (hx : Bx w p tp ws) {us : List Value} (O : Own w base e sz vb n us) (E : w.grownBy w' (pgRow p n vb)) (hp : p < L ∨ B ≤ p) (hb : B ≤ base) : RdC w' L B sz' v n2 cs :=
  h.keep E fun k hk => by
    rcases pgRow_some hk with q | q
    · subst q; exact hp
    · exact .inr (Nat.le_trans hb (O.lt k q).1)
theorem own_apart (O : Own w base e sz v n cs) (h : ∀ k, u.ownBlock = some k → k < base) : u.ownBlock = none ∨ v.ownBlock ≠ u.ownBlock := by
  rcases hu : u.ownBlock with _ | g
  · exact .inl rfl
  · refine .inr fun hh => ?_
    have h1 := (O.lt g hh).1; have h2 := h g hu; omega
theorem DJ.stepP (hr : RowOr u (pgRow p n vb) k0) (hd : DJ x vb) (hx : x.ownBlock ≠ some p) (hl : ∀ k, x.ownBlock = some k → k < k0) : DJ x u := by
  intro k hk hg
  rcases hr with hr | hr
  · rw [hr] at hg
    rcases pgRow_some hg with q | q
    · subst q; exact hx hk
    · exact hd k hk q
  · have := hr k hg; have := hl k hk; omega
theorem grow_stepR (h : w0.grownBy w row) (E : w.grownBy w' (pgRow p n vb)) (hp : w0.heap.size ≤ p) (O : Own w base e sz vb n cs) (hb : w0.heap.size ≤ base) : w0.grownBy w' row :=
  ⟨E.os.trans h.os, E.tape.trans h.tape, E.output.trans h.output, Nat.le_trans h.size E.size, fun k hk hne => by
    rw [E.block k (Nat.lt_of_lt_of_le hk h.size) (fun hh => by
      rcases pgRow_some hh.symm with q | q
      · omega
      · have := (O.lt k q).1; omega)]
    exact h.block k hk hne⟩
theorem below_stepR {B0 : Nat} (h : Below B0 w0 w) (E : w.grownBy w' (pgRow p n vb)) (hB : B0 ≤ w.heap.size) (hp : B0 ≤ p) (O : Own w base e sz vb n cs) (hb : B0 ≤ base) : Below B0 w0 w' :=
  h.grown E hB fun k hk => by
    rcases pgRow_some hk with q | q
    · omega
    · have := (O.lt k q).1; omega
theorem Own.rdx (O : Own w base e sz v n cs) : ∃ L B, RdC w L B sz v n cs ∧ B ≤ w.heap.size ∧ ∀ k, ¬ (k < L ∨ B ≤ k) → v.ownBlock = some k := by
  rcases hv : v.ownBlock with _ | g
  · refine ⟨0, 0, ?_, Nat.zero_le _, fun k hk => absurd (Nat.zero_le k) (fun q => hk (.inr q))⟩
    have := O.rd (B := 0) (by simp [hv])
    exact this.mono (Nat.zero_le _) (Nat.le_refl _)
  · refine ⟨g, g + 1, ?_, (O.lt g hv).2, fun k hk => by have : k = g := by omega
                                                        subst this; rfl⟩
    have O' : Own w g e sz v n cs := by
      refine ⟨O.1, ?_⟩
      rcases O.2 with ⟨rfl, _⟩ | ⟨g2, off, cap, cur, fr, rfl, hb, r⟩
      · simp [Value.ownBlock] at hv
      · simp only [Value.ownBlock, Option.some.injEq] at hv
        subst hv
        exact .inr ⟨g2, off, cap, cur, fr, rfl, Nat.le_refl _, r⟩
    exact O'.rd (B := g + 1) (fun k hk => by rw [hv] at hk; injection hk with hk; omega)
theorem Bx.keepP2 (h : Bx w b t cs) {us : List Value} (O : Own w base e sz vb n us) (E : w.grownBy w' (pgRow p n2 vb)) (hne : b ≠ p) (he : t ≠ e) : Bx w' b t cs :=
  h.keep E fun hh => by
    rcases pgRow_some hh.symm with q | q
    · exact hne q
    · exact O.neB h he q
theorem Bx.keepPn (h : Bx w b t cs) (hx : Bx w p tp ws) (E : w.grownBy w' (pgRow p n vb)) (ht : t ≠ tp) (hn : vb.ownBlock ≠ some b) : Bx w' b t cs :=
  h.keep E fun hh => by
    rcases pgRow_some hh.symm with q | q
    · exact h.ne hx ht q
    · exact hn q
theorem RowOr.ne (hr : RowOr u (pgRow p n vb) k0) (hn : vb.ownBlock ≠ some b) (hp : b ≠ p) (hb : b < k0) : u.ownBlock ≠ some b := by
  intro hh
  rcases hr with hr | hr
  · rw [hr] at hh
    rcases pgRow_some hh with q | q
    · exact hp q
    · exact hn q
  · have := hr b hh; omega
theorem pg_apart (hax : ∀ k, ¬ (k < L ∨ B ≤ k) → v.ownBlock = some k) (hp : v.ownBlock ≠ some p) (hd : DJ v vb) : ∀ q, pgRow p n vb = some q → q < L ∨ B ≤ q := fun q hq =>
  Classical.byContradiction fun hn => by
    have h1 := hax q hn
    rcases pgRow_some hq with h | h
    · subst h; exact hp h1
    · exact hd q h1 h
theorem lit_apart (hp : b ≠ p) (hn : vb.ownBlock ≠ some b) : ∀ q, pgRow p n vb = some q → q < b ∨ b + 1 ≤ q := fun q hq => by
  rcases pgRow_some hq with h | h
  · omega
  · have : q ≠ b := fun hh => hn (hh ▸ h)
    omega
theorem dj_nil (x : Value) : DJ x (.slice none 0 0) := fun _ _ hg => (by cases hg)
theorem ne_nil (b : Nat) : (Value.slice none 0 0).ownBlock ≠ some b := fun hg => (by cases hg)
structure IsSl (u : Value) : Prop where sl : ∃ ad n c, u = .slice ad n c
def chQ (m : Nat) : PhiC := fun c v u _ => m < c ∧ (c = m + 1 → u = v) ∧ IsSl u
theorem StK.chq {n m : Nat} {L : List PhiC} (h' : StK n L) : StK n (chQ m :: L) := ⟨⟨fun _ _ _ _ _ _ h => h, fun c v v' u w1 w2 _ _ h => ⟨by have := h.1; omega, fun hc => by have := h.1; omega, h.2.2⟩⟩, h'⟩
theorem chQ_now {m : Nat} (h : IsSl v) : chQ m (m + 1) v v w := ⟨Nat.lt_succ_self m, fun _ => rfl, h⟩
end
end Go.Gx

/- Small laws for walks, the twenty-fourth part: lists that may be nil held against nil; a list of one's own with room behind it. -/
namespace Go.Gx
open Go.RowKit
section
variable {P : Program} {Q : Exit → Act → World → Prop} {a : Act} {w w' : World} {l : List (Nat × Value)} {ops : Array Oper} {rest : List Oper}
variable {d ty t e xt yt : Nat} {p : String} {af : Array Edge} {x y : Operand} {v u : Value} {n base sz b c : Nat} {cs : List Value} {r : List UInt8}
/-- nil, where there is no record; else a list -/
def NO (v : Value) (r : List UInt8) : Prop := (v = .slice none 0 0 ∧ r = []) ∨ ((∃ a n c, v = .slice (some a) n c) ∧ r ≠ [])
theorem NO.none : NO (.slice none 0 0) [] := .inl ⟨rfl, rfl⟩
theorem Own.no (O : Own w base e sz v n cs) (hr : r ≠ []) (hn : 0 < n) : NO v r := by
  rcases O.2 with ⟨_, rfl⟩ | ⟨g, off, cap, cur, fr, rfl, _⟩
  · omega
  · exact .inr ⟨⟨_, _, _, rfl⟩, hr⟩
theorem op_eql_no (ht : P.underlying xt = some (.slice e)) (hx : (putsL a l).eval x = v) (hy : (putsL a l).eval y = .slice none 0 0) (h : NO v r)
    (k : wpList P ops Q rest (putsL a ((d, .bool (decide (r = []))) :: l)) w) : wpList P ops Q (⟨some d, .binOp .eql xt x y yt, ty, p, af, none⟩ :: rest) (putsL a l) w := by
  obtain ⟨ad, n, c, rfl, hb⟩ : ∃ ad n c, v = .slice ad n c ∧ ad.isNone = decide (r = []) := by
    rcases h with ⟨rfl, rfl⟩ | ⟨⟨ad, n, c, rfl⟩, hr⟩
    · exact ⟨_, _, _, rfl, rfl⟩
    · exact ⟨_, _, _, rfl, by simp [hr]⟩
  refine op_gen rfl ?_ (hb ▸ k)
  have := Lib.run_eql_slice_nil (P := P) w xt e ad n c 0 0 ht
  have hg : (eqGuard .eql xt x y (Value.slice ad n c) (Value.slice none 0 0)).run P w = .ok () w := by simp [eqGuard]
  simp only [execOp, hx, hy]
  simp [this, hg]
theorem op_neq_no (ht : P.underlying xt = some (.slice e)) (hx : (putsL a l).eval x = v) (hy : (putsL a l).eval y = .slice none 0 0) (h : NO v r)
    (k : wpList P ops Q rest (putsL a ((d, .bool (decide (r ≠ []))) :: l)) w) : wpList P ops Q (⟨some d, .binOp .neq xt x y yt, ty, p, af, none⟩ :: rest) (putsL a l) w := by
  obtain ⟨ad, n, c, rfl, hb⟩ : ∃ ad n c, v = .slice ad n c ∧ (!ad.isNone) = decide (r ≠ []) := by
    rcases h with ⟨rfl, rfl⟩ | ⟨⟨ad, n, c, rfl⟩, hr⟩
    · exact ⟨_, _, _, rfl, rfl⟩
    · exact ⟨_, _, _, rfl, by simp [hr]⟩
  refine op_gen rfl ?_ (hb ▸ k)
  have := run_neq_slice_nil_any (P := P) w xt e ad n c 0 0 ht
  have hg : (eqGuard .neq xt x y (Value.slice ad n c) (Value.slice none 0 0)).run P w = .ok () w := by simp [eqGuard]
  simp only [execOp, hx, hy]
  simp [this, hg]
/-- a list up to its element m -/
def hiV (v : Value) (m : Nat) : Value := match v with | .slice ad _ c => .slice ad m c | x => x
theorem Own.hi {e2 m : Nat} (O : Own w base e2 sz v n cs) (hm : m ≤ n) : Own w base e2 sz (hiV v m) m (cs.take (m * sz)) := by
  have hle : m * sz ≤ n * sz := Nat.mul_le_mul_right _ hm
  obtain ⟨hl, ⟨rfl, rfl⟩ | ⟨g, off, cap, cur, fr, rfl, hb, hg, hf, hnc, hcm, hfit, htk⟩⟩ := O
  · have : m = 0 := by omega
    subst this
    exact ⟨by simp, .inl ⟨rfl, rfl⟩⟩
  · refine ⟨by simp; omega, .inr ⟨g, off, cap, cur, fr, rfl, hb, hg, hf, by omega, hcm, hfit, ?_⟩⟩
    rw [← htk, List.take_take, Nat.min_eq_left hle]
theorem hiV_own (O : Own w base e sz v n cs) (m : Nat) : (hiV v m).ownBlock = v.ownBlock := by
  obtain ⟨hl, ⟨rfl, rfl⟩ | ⟨g, off, cap, cur, fr, rfl, _⟩⟩ := O <;> rfl
theorem op_slice_hiv {by_ m : Nat} {zv : Value} {hi : Operand} {k : IntKind} {r : Int} (T : SlT P t e zv 1 by_) (hx : (putsL a l).eval x = v) (O : Own w base e 1 v n cs) (hh : (putsL a l).eval hi = .int k r) (hr : r = (m : Int)) (hm : m ≤ n)
    (h : wpList P ops Q rest (putsL a ((d, hiV v m) :: l)) w) : wpList P ops Q (⟨some d, .slice t x none (some hi) none, ty, p, af, none⟩ :: rest) (putsL a l) w := by
  obtain ⟨inf, hin, hz0, hz1, hz2⟩ := info_parts T.info
  subst hr
  obtain ⟨hl, ⟨rfl, rfl⟩ | ⟨g, off, cap, cur, fr, rfl, hb, hg, hf, hnc, hcm, hfit, htk⟩⟩ := O
  · have h0 : m = 0 := by omega
    subst h0
    refine op_gen (v := .slice none 0 0) rfl ?_ h
    simp [execOp, hx, hh, Instr.sliceAt, Instr.slice, run_underlying T.und, Instr.sliceBounds, Instr.sliceBound, asIntOf, sizeOf, typeInfo, hin]
  · have hmc : m ≤ cap := by omega
    have hmc' : ¬ ((cap : Int) < (m : Int)) := by omega
    refine op_gen (v := .slice (some ⟨g, off, none⟩) m cap) rfl ?_ h
    simp [execOp, hx, hh, Instr.sliceAt, Instr.slice, run_underlying T.und, Instr.sliceBounds, Instr.sliceBound, asIntOf, sizeOf, typeInfo, hin, Addr.add_lit, hmc]
theorem take_flat1 {α : Type} (l : List α) (f : α → Value) (m : Nat) : (l.flatMap (fun x => [f x])).take (m * 1) = (l.take m).flatMap (fun x => [f x]) := by
  rw [Nat.mul_one]
  induction l generalizing m with
  | nil => simp
  | cons a t ih => cases m with
    | zero => rfl
    | succ m => simp only [List.flatMap_cons, List.singleton_append, List.take_succ_cons, ih]
theorem set_flat1 {α : Type} (l : List α) (f : α → Value) {m : Nat} {x : α} (h : m < l.length) : (l.flatMap (fun x => [f x])).take m ++ [f x] ++ (l.flatMap (fun x => [f x])).drop (m + 1) = (l.set m x).flatMap (fun x => [f x]) := by
  induction l generalizing m with
  | nil => simp at h
  | cons a t ih => cases m with
    | zero => simp
    | succ m =>
      simp only [List.flatMap_cons, List.singleton_append, List.take_succ_cons, List.drop_succ_cons, List.set_cons_succ, List.cons_append]
      congr 1
      exact ih (by simpa using h)
/-- where an object's row lies, and what may be changed from now on -/
structure RowP (p n : Nat) (u : Value) (row : Option Nat) (k0 : Nat) : Prop where
  ro : RowOr u row k0
  pr : pgRow p n u = row ∨ ∀ k, pgRow p n u = some k → k0 ≤ k
theorem RowP.laid {p n k0 : Nat} {u : Value} {row : Option Nat} (hn : n ≠ 0) (h : RowOr u row k0) : RowP p n u row k0 := by
  refine ⟨h, ?_⟩
  unfold pgRow; rw [if_neg hn]; exact h
theorem RowP.trans {p n1 n2 k0 k1 : Nat} {u1 u2 : Value} {row : Option Nat} (h2 : RowP p n2 u2 (pgRow p n1 u1) k1) (h1 : RowP p n1 u1 row k0) (hk : k0 ≤ k1) : RowP p n2 u2 row k0 := by
  refine ⟨?_, ?_⟩
  · rcases h2.ro with q | q
    · rcases h1.pr with r | r
      · exact .inl (q.trans r)
      · exact .inr fun k hh => r k (q ▸ hh)
    · exact .inr fun k hh => Nat.le_trans hk (q k hh)
  · rcases h2.pr with q | q
    · rcases h1.pr with r | r
      · exact .inl (q.trans r)
      · exact .inr fun k hh => r k (q ▸ hh)
    · exact .inr fun k hh => Nat.le_trans hk (q k hh)
theorem grow_stepRP {w0 w w' : World} {p n : Nat} {u : Value} {row : Option Nat} (h : w0.grownBy w row) (E : w.grownBy w' (pgRow p n u)) (hr : RowP p n u row w0.heap.size) : w0.grownBy w' row := by
  rcases hr.pr with q | q
  · rw [q] at E; exact grown_trans h E
  · refine ⟨E.os.trans h.os, E.tape.trans h.tape, E.output.trans h.output, Nat.le_trans h.size E.size, fun k hk hne => ?_⟩
    rw [E.block k (Nat.lt_of_lt_of_le hk h.size) (fun hh => by have := q k hh.symm; omega)]
    exact h.block k hk hne
theorem Own.ofRow (h : Bx w b t cs) (hl : c ≤ cs.length) (hn : n ≤ c) (hm : c ≤ maxLen) (hb : base ≤ b) : Own w base t 1 (.slice (some ⟨b, 0, none⟩) n c) n (cs.take n) := by
  refine ⟨by simp; omega, .inr ⟨b, 0, c, cs.toArray, _, rfl, hb, h, fun j _ hh => absurd hh.2 (Nat.not_lt_zero _), hn, hm, by simpa using hl, by simp⟩⟩
end
end Go.Gx

/- Small laws for walks, the twenty-fifth part: a region whose order is open, with calls that change the world one after the other and light operations beside them. -/
namespace Go.Gx
open Go.RowKit
section
variable {P : Program} {ol : List Oper} {Q : Exit → Act → World → Prop} {Φ : Nat → Value → Prop} {G : World → Prop} {a0 : Act} {N : Nat}
/-- what is left to show, with these calls still to come -/
def KL (P : Program) (ol : List Oper) (Φ : Nat → Value → Prop) (G : World → Prop) (a0 : Act) (N : Nat) (Q : Exit → Act → World → Prop) : List Nat → World → Prop
  | [], w => ∀ w1, w.grownBy w1 none → ∀ a', a'.tmps.size = N → a'.defers = a0.defers → (∀ t, (ol.all fun o => o.dst != some t) = true → a'.tmps.getD t undef = a0.tmps.getD t undef) →
      (∀ j oj d, ol[j]? = some oj → oj.dst = some d → Φ j (a'.tmps.getD d undef)) → Q .normal (putsL a' []) w1
  | i :: r, w => ∀ w1, w.grownBy w1 none → G w1 → ∀ a, a.tmps.size = N → (∀ t, safeB ol i t = true → a.tmps.getD t undef = a0.tmps.getD t undef) → (∀ j oj d, depB ol i j = true → ol[j]? = some oj → oj.dst = some d → Φ j (a.tmps.getD d undef)) →
      ∀ o, ol[i]? = some o → wpList P ol.toArray (fun e a' w' => e = .normal ∧ ((o.dst = none ∧ a' = a) ∨ ∃ d v, o.dst = some d ∧ a' = putsL a [(d, v)] ∧ Φ i v) ∧ (KL P ol Φ G a0 N Q r w' ∧ G w') ∧ True) [o] (putsL a []) w1
theorem KL.stable : ∀ {ops : List Nat} {w w2 : World}, KL P ol Φ G a0 N Q ops w → w.grownBy w2 none → KL P ol Φ G a0 N Q ops w2
  | [], _, _, h, E => fun w1 E1 => h w1 (grown_trans E E1)
  | _ :: _, _, _, h, E => fun w1 E1 => h w1 (grown_trans E E1)
/-- what a light operation must show -/
def ObG (P : Program) (ol : List Oper) (Φ : Nat → Value → Prop) (G : World → Prop) (a0 : Act) (N : Nat) (i : Nat) (o : Oper) : Prop :=
  ∀ (a : Act) (w : World), a.tmps.size = N → G w → (∀ t, safeB ol i t = true → a.tmps.getD t undef = a0.tmps.getD t undef) → (∀ j oj d, depB ol i j = true → ol[j]? = some oj → oj.dst = some d → Φ j (a.tmps.getD d undef)) →
    wpList P ol.toArray (fun e a' w' => e = .normal ∧ (∃ d v, o.dst = some d ∧ a' = putsL a [(d, v)] ∧ Φ i v) ∧ w.grownBy w' none) [o] (putsL a []) w
theorem reg_calls {id : Nat} (ops : List Nat) (hm : P.follows .mixedOrders = true) (hlex : lexB' ol = true) (hdn : dstNB ol N = true) (hdst : dstsB ol = true) (hch : (⟨ops, fun _ => N⟩ : Chain).okB ol = true)
    {l : List (Nat × Value)} {w : World} (hN : a0.tmps.size = N) (hG : ∀ w1 w2, w1.grownBy w2 none → G w1 → G w2) (g0 : G w)
    (obL : ∀ i o, ol[i]? = some o → ops.contains i = false → ObG P ol Φ G (putsL a0 l) N i o)
    (hdf : (putsL a0 l).defers = a0.defers)
    (main : KL P ol Φ G (putsL a0 l) N Q ops w) : (Code.region id ol.toArray true).wp P Q (putsL a0 l) w := by
  refine reg_mid0 (Φ := fun j u _ => Φ j u) (C := fun c _ w => KL P ol Φ G (putsL a0 l) N Q (ops.drop c) w ∧ G w) (ch := ⟨ops, fun _ => N⟩) (R := fun _ _ => True) hm hlex hdn hdst hch (fun _ => trivial) (fun _ _ _ _ _ => trivial) (fun _ _ _ => trivial) (fun _ _ _ _ _ h => h)
    (fun c u w1 w2 E h => ⟨h.1.stable E, hG _ _ E h.2⟩) hN ⟨main, g0⟩ (fun i o hi hh => fun a w c h1 h2 h3 h4 h5 h6 h7 => ?_) (fun c i o hc hi => fun a w h1 h2 h3 h4 h5 => ?_) (fun a' w' h1 h2 h3 h4 h5 h6 => ?_)
  · exact obL i o hi hh a w h1 h5.2 h6 h7
  · obtain ⟨h5, h6⟩ := h5
    have hd : ops.drop c = i :: ops.drop (c + 1) := by
      have hlt : c < ops.length := (List.getElem?_eq_some_iff.1 hc).1
      rw [List.drop_eq_getElem_cons hlt, (List.getElem?_eq_some_iff.1 hc).2]
    rw [hd] at h5
    exact h5 w (grown_refl _ _) h6 a h1 h3 h4 o hi
  · have h5' := h5.1
    rw [List.drop_of_length_le (Nat.le_refl _)] at h5'
    exact h5' w' (grown_refl _ _) a' h1 (h2.trans hdf.symm) h3 h4
theorem kl_end {o : Oper} {i d : Nat} {v : Value} {a : Act} {w : World} {r : List Nat} (hd : o.dst = some d) (hv : Φ i v) (g : G w) (h : KL P ol Φ G a0 N Q r w) :
    wpList P ol.toArray (fun e a' w' => e = .normal ∧ ((o.dst = none ∧ a' = a) ∨ ∃ d v, o.dst = some d ∧ a' = putsL a [(d, v)] ∧ Φ i v) ∧ (KL P ol Φ G a0 N Q r w' ∧ G w') ∧ True) [] (putsL a [(d, v)]) w := ⟨rfl, .inr ⟨d, v, hd, rfl, hv⟩, ⟨h, g⟩, trivial⟩
theorem obG_end {o : Oper} {i d : Nat} {v : Value} {a : Act} {w : World} (hd : o.dst = some d) (hv : Φ i v) :
    wpList P ol.toArray (fun e a' w' => e = .normal ∧ (∃ d v, o.dst = some d ∧ a' = putsL a [(d, v)] ∧ Φ i v) ∧ w.grownBy w' none) [] (putsL a [(d, v)]) w := ⟨rfl, ⟨d, v, hd, rfl, hv⟩, grown_refl _ _⟩
end
section
variable {P : Program} {ol : List Oper} {Φ : Nat → Value → Prop} {G : World → Prop} {a0 : Act} {N : Nat} {ops : List Nat}
def ObGs (P : Program) (ol : List Oper) (Φ : Nat → Value → Prop) (G : World → Prop) (a0 : Act) (N : Nat) (ops : List Nat) : Nat → List Oper → Prop
  | _, [] => True
  | i, o :: r => (ops.contains i = false → ObG P ol Φ G a0 N i o) ∧ ObGs P ol Φ G a0 N ops (i + 1) r
theorem ObGs.nil {i : Nat} : ObGs P ol Φ G a0 N ops i [] := trivial
theorem ObGs.cons {i : Nat} {o : Oper} {r : List Oper} (h : ObG P ol Φ G a0 N i o) (h' : ObGs P ol Φ G a0 N ops (i + 1) r) : ObGs P ol Φ G a0 N ops i (o :: r) := ⟨fun _ => h, h'⟩
theorem ObGs.pass {i : Nat} {o : Oper} {r : List Oper} (hh : ops.contains i = true) (h' : ObGs P ol Φ G a0 N ops (i + 1) r) : ObGs P ol Φ G a0 N ops i (o :: r) := ⟨fun h => absurd (hh.symm.trans h) (by decide), h'⟩
theorem ObGs.getx : ∀ {l : List Oper} {i : Nat}, ObGs P ol Φ G a0 N ops i l → ∀ j o, l[j]? = some o → ops.contains (i + j) = false → ObG P ol Φ G a0 N (i + j) o
  | [], _, _, j, o, h, _ => by simp at h
  | o' :: r, i, h, 0, o, hj, hs => by simp at hj; subst hj; exact h.1 hs
  | o' :: r, i, h, j + 1, o, hj, hs => by
    have := ObGs.getx h.2 j o (by simpa using hj) (by rwa [show i + 1 + j = i + (j + 1) by omega])
    rwa [show i + 1 + j = i + (j + 1) by omega] at this
theorem ObGs.get {l : List Oper} (h : ObGs P ol Φ G a0 N ops 0 l) : ∀ j o, l[j]? = some o → ops.contains j = false → ObG P ol Φ G a0 N j o := fun j o hj hs => by
  have := ObGs.getx h j o hj (by rwa [Nat.zero_add])
  rwa [Nat.zero_add] at this
/-- what is told of the slots, by the operations' places -/
def phiV (L : List (Value → Prop)) : Nat → Value → Prop := fun j u => (L.getD j (fun _ => True)) u
end
end Go.Gx

/- Small laws for walks, the twenty-sixth part: channels in one goroutine: sends, receives, selects of one case with a default, len and cap: no condition beyond those each law states. -/
namespace Go.Gx
open Go.RowKit Go.Conc

/-- The rest of a region, told by the machine's own steps. -/
def LA (P : Program) (ops : Array Oper) (Q : Exit → Act → World → Prop) (l : List Nat) (a : Act) (w : World) : Prop :=
  ∀ (b : Frame) (k : List Item) (cs : List Frame), ∃ e a' w', Q e a' w' ∧ Arrives P (lone (b.at a (.inRegion ops l :: k)) cs w) b k cs e a' w'

section
variable {P : Program} {ops : Array Oper} {Q : Exit → Act → World → Prop} {a : Act} {w w1 w2 : World} {o : Oper} {i : Nat} {r : List Nat} {v : Value}

theorem la_step (h : LA P ops Q r (a.put ((ops[i]?).bind (·.dst)) v) w2) (hs : ∀ (b : Frame) (k : List Item) (cs : List Frame), Steps P (lone (b.at a (.inRegion ops (i :: r) :: k)) cs w) (lone ((b.at a (.inRegion ops (i :: r) :: k)).finish v) cs w2)) : LA P ops Q (i :: r) a w := by
  intro b k cs
  obtain ⟨e, a', w', hq, harr⟩ := h b k cs
  refine ⟨e, a', w', hq, .of_steps (hs b k cs) ?_⟩
  rw [Frame.finish_at]; exact harr
theorem la_stop {e : Exit} {a' : Act} {w' : World} (hq : Q e a' w') (h : ∀ (b : Frame) (k : List Item) (cs : List Frame), Arrives P (lone (b.at a (.inRegion ops (i :: r) :: k)) cs w) b k cs e a' w') : LA P ops Q (i :: r) a w :=
  fun b k cs => ⟨e, a', w', hq, h b k cs⟩
theorem la_nil (h : Q .normal a w) : LA P ops Q [] a w := fun _ _ _ => ⟨.normal, a, w, h, .one step_region_end⟩
theorem la_reg {id : Nat} (h : LA P ops Q (List.range ops.size) a w) : (Code.region id ops false).wp P Q a w := by
  intro b k cs
  obtain ⟨e, a', w', hq, harr⟩ := h b k cs
  exact ⟨e, a', w', hq, .of_steps (.one step_region) harr⟩

/-- One operation that hands a value back, or nothing. -/
theorem la_val (ho : ops[i]? = some o) (hg : o.guard = none) (hr : (execOp a.eval o).run P w = .ok (.value v) w2) (h : LA P ops Q r (a.put o.dst v) w2) : LA P ops Q (i :: r) a w := by
  have hw : Region.wanted o (yielded ops a.tmps) = true := by simp [Region.wanted, hg]
  refine la_step (v := v) (by rw [ho]; exact h) fun b k cs => .one (step_lone_go ?_)
  rw [stepG_op ho hw]; simp [stepG.apply, hr]
theorem la_unit (ho : ops[i]? = some o) (hg : o.guard = none) (hr : (execOp a.eval o).run P w = .ok .skip w2) (h : LA P ops Q r (a.put o.dst undef) w2) : LA P ops Q (i :: r) a w := by
  have hw : Region.wanted o (yielded ops a.tmps) = true := by simp [Region.wanted, hg]
  refine la_step (v := undef) (by rw [ho]; exact h) fun b k cs => .one (step_lone_go ?_)
  rw [stepG_op ho hw]; simp [stepG.apply, hr]
/-- A call. -/
theorem la_call {f : FuncId} {vs : Array Value} {R : Value → World → Prop} (ho : ops[i]? = some o) (hg : o.guard = none) (hr : (execOp a.eval o).run P w = .ok (.enter f vs) w1) (hc : Calls P f vs w1 fun e w' => ∃ v, e = .returned v ∧ R v w')
    (h : ∀ v w', R v w' → LA P ops Q r (a.put o.dst v) w') : LA P ops Q (i :: r) a w := by
  have hw : Region.wanted o (yielded ops a.tmps) = true := by simp [Region.wanted, hg]
  intro b k cs
  obtain ⟨e, w2, fr, ⟨v, rfl, hR⟩, hst, _, hl⟩ := hc (b.at a (.inRegion ops (i :: r) :: k) :: cs)
  obtain ⟨e, a', w', hq, harr⟩ := h v w2 hR b k cs
  have h1 : step P (lone (b.at a (.inRegion ops (i :: r) :: k)) cs w) = .next (lone (Frame.enter P f vs .normal) (b.at a (.inRegion ops (i :: r) :: k) :: cs) w1) :=
    step_lone_go (by rw [stepG_op ho hw]; simp [stepG.apply, hr, Frame.at])
  have h2 : Steps P (lone (b.at a (.inRegion ops (i :: r) :: k)) cs w) (lone (b.at (a.put o.dst v) (.inRegion ops r :: k)) cs w2) := by
    refine .head h1 (Steps.trans hst (.one ?_))
    have := step_leave_returned (c := b.at a (.inRegion ops (i :: r) :: k)) (cs := cs) hl
    rw [Frame.finish_at, ho] at this; exact this
  exact ⟨e, a', w', hq, .of_steps h2 harr⟩
/-- What the machine meets at an operation of channels. -/
theorem stepG_comm {b : Frame} {k : List Item} {cs : List Frame} {cases : Array CommCase} {blocking : Bool} {shape : CommShape} (ho : ops[i]? = some o) (hg : o.guard = none) (hr : (execOp a.eval o).run P w = .ok (.comm cases blocking shape) w1) :
    ∃ es, stepG P true (G (b.at a (.inRegion ops (i :: r) :: k)) cs) w = .comm (G (b.at a (.inRegion ops (i :: r) :: k)) cs) cases blocking shape w1 es := by
  have hw : Region.wanted o (yielded ops a.tmps) = true := by simp [Region.wanted, hg]
  refine ⟨(stepG P true (G (b.at a (.inRegion ops (i :: r) :: k)) cs) w).es, ?_⟩
  show stepG P true { frame := b.at a (.inRegion ops (i :: r) :: k), callers := cs, status := .running, dying := none } w = _
  have hh : stepG P true (G (b.at a (.inRegion ops (i :: r) :: k)) cs) w = _ := stepG_op ho hw
  rw [hh, stepG_op ho hw]
  simp only [stepG.apply, Sem.runT_eq, if_true, hr]
  simp [GStep.after, GStep.es, G]
theorem la_comm {cases : Array CommCase} {blocking : Bool} {shape : CommShape} (ho : ops[i]? = some o) (hg : o.guard = none) (hr : (execOp a.eval o).run P w = .ok (.comm cases blocking shape) w1)
    (hs : ∀ (fr : Frame) (cs : List Frame) (es : Array Event), stepG P true (G fr cs) w = .comm (G fr cs) cases blocking shape w1 es → step P (solo (G fr cs) w) = .next (solo (G (fr.finish v) cs) w2))
    (h : LA P ops Q r (a.put o.dst v) w2) : LA P ops Q (i :: r) a w := by
  refine la_step (v := v) (by rw [ho]; exact h) fun b k cs => ?_
  obtain ⟨es, he⟩ := stepG_comm (b := b) (k := k) (cs := cs) (r := r) ho hg hr
  exact .one (hs _ _ _ he)
end

/-! ### the operations ahead of the last one -/
section
variable {P : Program} {ops : Array Oper} {Q : Exit → Act → World → Prop}
/-- What stands at the end of a region's first part. -/
def Then1 (K : Act → World → Prop) (Q : Exit → Act → World → Prop) : Exit → Act → World → Prop
  | .normal, a, w => K a w
  | e, a, w => Q e a w
theorem la_pre (r : List Nat) : ∀ (pre : List Oper) (n : Nat) (a : Act) (w : World), (∀ j, j < pre.length → ops[n + j]? = pre[j]?) → wpList P ops (Then1 (LA P ops Q r) Q) pre a w → LA P ops Q (List.range' n pre.length ++ r) a w := by
  intro pre
  induction pre with
  | nil => intro n a w _ h; exact h
  | cons o pre ih =>
    intro n a w hops h
    have ho : ops[n]? = some o := by simpa using hops 0 (by simp)
    have hops' : ∀ j, j < pre.length → ops[n + 1 + j]? = pre[j]? := fun j hj => by
      have := hops (j + 1) (by simp; omega)
      rw [show n + 1 + j = n + (j + 1) by omega, this]; simp
    rw [List.length_cons, List.range'_succ, List.cons_append]
    unfold wpList at h
    by_cases hw : Region.wanted o (yielded ops a.tmps) = true
    · rw [if_pos hw] at h
      rcases h with h | ⟨hasks, a0, w0, hq⟩
      case inr =>
        intro b k cs
        by_cases hk : b.kind = .early
        · exact ⟨.outgrown, a0, w0, hq, .inl hk⟩
        · exact ⟨.outgrown, a0, w0, hq, .inr (asks_outgrown ho hw hk hasks)⟩
      simp only [Oper.wp, Oper.upon] at h
      have hg : ∀ (b : Frame) (k : List Item) (cs : List Frame), _ := fun b k cs => stepG_op (P := P) (b := b) (k := k) (cs := cs) (w := w) (rest := List.range' (n + 1) pre.length ++ r) ho hw
      split at h
      · rename_i v w' hr
        exact la_step (v := v) (by rw [ho]; exact ih (n + 1) _ _ hops' h) fun b k cs => .one (step_lone_go (by rw [hg]; simp [stepG.apply, hr]))
      · rename_i w' hr
        exact la_step (v := undef) (by rw [ho]; exact ih (n + 1) _ _ hops' h) fun b k cs => .one (step_lone_go (by rw [hg]; simp [stepG.apply, hr]))
      · rename_i d w' hr
        intro b k cs
        obtain ⟨e, a', w'', hq, harr⟩ := ih (n + 1) _ _ hops' h b k cs
        refine ⟨e, a', w'', hq, .of_steps (.one (step_lone_go ?_)) harr⟩
        have hfin := Frame.finish_at b { a with defers := d :: a.defers } ops n (List.range' (n + 1) pre.length ++ r) k undef
        rw [ho] at hfin
        rw [hg]; simp only [stepG.apply, Sem.runT_eq, hr, GStep.bare_after]
        exact congrArg (fun fr => GStep.go { frame := fr, callers := cs, status := .running, dying := none } w') hfin
      · rename_i f args w' hr
        intro b k cs
        obtain ⟨e, w'', fr, hR, hst, _, hl⟩ := h (b.at a (.inRegion ops (n :: (List.range' (n + 1) pre.length ++ r)) :: k) :: cs)
        have h1 : step P (lone (b.at a (.inRegion ops (n :: (List.range' (n + 1) pre.length ++ r)) :: k)) cs w) = .next (lone (Frame.enter P f args .normal) (b.at a (.inRegion ops (n :: (List.range' (n + 1) pre.length ++ r)) :: k) :: cs) w') :=
          step_lone_go (by rw [hg]; simp [stepG.apply, hr, Frame.at])
        cases e with
        | returned v =>
          obtain ⟨e, a', w3, hq, harr⟩ := ih (n + 1) _ _ hops' hR b k cs
          refine ⟨e, a', w3, hq, .of_steps (.head h1 (Steps.trans hst (.one ?_))) harr⟩
          have h2 := step_leave_returned (c := b.at a (.inRegion ops (n :: (List.range' (n + 1) pre.length ++ r)) :: k)) (cs := cs) hl
          rw [Frame.finish_at, ho] at h2; exact h2
        | panicked chain => exact ⟨.panic chain, a, w'', hR, _, .head h1 (Steps.trans hst (.one (step_leave_panicked hl)))⟩
        | outgrown => obtain ⟨a0, w0, hq⟩ := hR; exact ⟨.outgrown, a0, w0, hq, .inr (Outgrown.of_steps (.one h1) hst)⟩
      · rename_i row args w' hr
        intro b k cs
        obtain ⟨v, w'', hR, hst⟩ := h (b.at a (.inRegion ops (n :: (List.range' (n + 1) pre.length ++ r)) :: k)) cs
        have h1 : step P (lone (b.at a (.inRegion ops (n :: (List.range' (n + 1) pre.length ++ r)) :: k)) cs w) = .next (lone (Frame.ofRow P row args .normal) (b.at a (.inRegion ops (n :: (List.range' (n + 1) pre.length ++ r)) :: k) :: cs) w') :=
          step_lone_go (by rw [hg]; simp [stepG.apply, hr, Frame.at])
        obtain ⟨e, a', w3, hq, harr⟩ := ih (n + 1) _ _ hops' hR b k cs
        refine ⟨e, a', w3, hq, .of_steps (.head h1 ?_) harr⟩
        rw [Frame.finish_at, ho] at hst; exact hst
      · rename_i v w' hr
        exact la_stop (e := .panic _) h fun b k cs => ⟨.inRegion ops (n :: (List.range' (n + 1) pre.length ++ r)) :: k, .one (step_lone_go (by rw [hg, ← Frame.raise_at]; simp [stepG.apply, hr]))⟩
      · exact h.elim
    · rw [if_neg hw] at h
      have hw' : Region.wanted o (yielded ops a.tmps) = false := by simpa using hw
      intro b k cs
      obtain ⟨e, a', w'', hq, harr⟩ := ih (n + 1) _ _ hops' h b k cs
      have h1 := step_op_skip (P := P) (b := b) (a := a) (k := k) (cs := cs) (w := w) (ops := ops) (i := n) (rest := List.range' (n + 1) pre.length ++ r) (by simp [ho, hw'])
      rw [ho] at h1
      exact ⟨e, a', w'', hq, .of_steps (.one h1) harr⟩
/-- A region whose last operation is one of channels. -/
theorem reg_last {id : Nat} {pre : List Oper} {o : Oper} {a : Act} {w : World} (h : wpList P (pre ++ [o]).toArray (Then1 (LA P (pre ++ [o]).toArray Q [pre.length]) Q) pre a w) : (Code.region id (pre ++ [o]).toArray false).wp P Q a w := by
  refine la_reg ?_
  have := la_pre (Q := Q) (P := P) (ops := (pre ++ [o]).toArray) [pre.length] pre 0 a w (fun j hj => by simp [List.getElem?_append_left hj]) h
  have e : List.range (pre ++ [o]).toArray.size = List.range' 0 pre.length ++ [pre.length] := by simp [List.range_succ, List.range_eq_range']
  rw [e]; exact this
/-- A region whose first operation is one of channels: the rest. -/
theorem la_rest {o : Oper} {rest : List Oper} {a : Act} {w : World} (h : wpList P (o :: rest).toArray Q rest a w) : LA P (o :: rest).toArray Q (List.range' 1 rest.length) a w := by
  refine wp_ops _ a w ?_
  rw [wpOps_eq_wpList rest 1 (fun j => by simp [Nat.add_comm])]; exact h
theorem la_first {id : Nat} {o : Oper} {rest : List Oper} {a : Act} {w : World} (h : LA P (o :: rest).toArray Q (0 :: List.range' 1 rest.length) a w) : (Code.region id (o :: rest).toArray false).wp P Q a w := by
  refine la_reg ?_
  have e : List.range (o :: rest).toArray.size = 0 :: List.range' 1 rest.length := by simp [List.range_eq_range', List.range'_succ]
  rw [e]; exact h
end

/-! ### the channel's block -/
/-- Block c is an open channel of one's own that nobody else knows: so much room, these values wait. -/
def ChC (w : World) (c cap : Nat) (buf : List Value) : Prop := ∃ s r, w.heap[c]? = some (.chan cap buf.toArray false s r false)
section
variable {P : Program} {w w' : World} {row : Option Nat} {b t c cap base e sz n L B : Nat} {cs buf buf' : List Value} {v : Value}
theorem ChC.lt (h : ChC w c cap buf) : c < w.heap.size := by obtain ⟨s, r, h⟩ := h; exact (Array.getElem?_eq_some_iff.1 h).1
theorem ChC.keep (h : ChC w c cap buf) (E : w.grownBy w' row) (hne : some c ≠ row) : ChC w' c cap buf := by
  have hl := h.lt; obtain ⟨s, r, h⟩ := h; exact ⟨s, r, (E.block c hl hne).trans h⟩
theorem ChC.keep0 (h : ChC w c cap buf) (E : w.grownBy w' none) : ChC w' c cap buf := h.keep E (by simp)
theorem Own.notCh (O : Own w base e sz v n cs) (h : ChC w c cap buf) : v.ownBlock ≠ some c := by
  obtain ⟨s, r, h⟩ := h
  rcases O.2 with ⟨rfl, _⟩ | ⟨g, off, cp, cur, fr, rfl, _, hg, _⟩
  · simp [Value.ownBlock]
  · intro hh; simp [Value.ownBlock] at hh; subst hh; rw [hg] at h; simp at h
theorem Bx.notCh (B : Bx w b t cs) (h : ChC w c cap buf) : b ≠ c := by
  rintro rfl; obtain ⟨s, r, h⟩ := h; unfold Bx at B; rw [B] at h; simp at h
theorem ChC.keepO (h : ChC w c cap buf) (O : Own w base e sz v n cs) (E : w.grownBy w' v.ownBlock) : ChC w' c cap buf := h.keep E fun hh => O.notCh h hh.symm
theorem ChC.keepB (h : ChC w c cap buf) (B : Bx w b t cs) (E : w.grownBy w' (some b)) : ChC w' c cap buf := h.keep E fun hh => B.notCh h (Option.some.inj hh).symm
theorem ChC.keepH {c' cap' : Nat} (h : ChC w c cap buf) (E : w.grownBy w' (some c')) (hne : c ≠ c') : ChC w' c cap buf := h.keep E fun hh => hne (Option.some.inj hh)
theorem Bx.keepC (B : Bx w b t cs) (h : ChC w c cap buf) (E : w.grownBy w' (some c)) : Bx w' b t cs := B.keep E fun hh => B.notCh h (Option.some.inj hh)
theorem Own.keepC (O : Own w base e sz v n cs) (h : ChC w c cap buf) (E : w.grownBy w' (some c)) : Own w' base e sz v n cs := O.keep E (.inr (O.notCh h))
theorem RdC.keepC (R : RdC w L B sz v n cs) (h : ChC w c cap buf) (E : w.grownBy w' (some c)) : RdC w' L B sz v n cs := by
  obtain ⟨hl, a, cp, rfl, h1, h2, h3⟩ := R
  refine ⟨hl, a, cp, rfl, h1, h2, ?_⟩
  rcases h3 with h3 | ⟨b, off, rfl, hL, hB, hc⟩
  · exact .inl h3
  · refine .inr ⟨b, off, rfl, hL, hB, fun j u hu => ?_⟩
    have h0 := hc j u hu
    have hb : b ≠ c := by
      rintro rfl; obtain ⟨s, r, h⟩ := h
      simp [World.cell?, h] at h0
    have hlt : b < w.heap.size := by
      by_cases hh : b < w.heap.size
      · exact hh
      · simp [World.cell?, Array.getElem?_eq_none (Nat.le_of_not_lt hh)] at h0
    rw [World.cell?_of_block (E.block b hlt (by simpa using hb))]; exact h0
theorem grown_setChan (w : World) (c cap : Nat) (buf : Array Value) (s r : Nat) : w.grownBy (w.setChan c cap buf false s r false) (some c) :=
  ⟨rfl, rfl, rfl, by simp [World.setChan], fun k _ hk => by simp only [World.setChan]; rw [Array.getElem?_setIfInBounds_ne (fun e => hk (by rw [e]))]⟩
end

/-! ### two blocks may change -/
structure Gr2 (w w' : World) (c p : Option Nat) : Prop where
  os : w'.os = w.os
  tape : w'.tape = w.tape
  output : w'.output = w.output
  size : w.heap.size ≤ w'.heap.size
  block : ∀ k, k < w.heap.size → some k ≠ c → some k ≠ p → w'.heap[k]? = w.heap[k]?
section
variable {w w1 w2 w' : World} {c p row : Option Nat} {base e sz n b : Nat} {cs : List Value} {v : Value}
theorem Gr2.refl (w : World) (c p : Option Nat) : Gr2 w w c p := ⟨rfl, rfl, rfl, Nat.le_refl _, fun _ _ _ _ => rfl⟩
theorem Gr2.go (h : Gr2 w w1 c p) (E : w1.grownBy w2 row) (hr : ∀ k, k < w.heap.size → row = some k → some k = c ∨ some k = p) : Gr2 w w2 c p :=
  ⟨E.os.trans h.os, E.tape.trans h.tape, E.output.trans h.output, Nat.le_trans h.size E.size, fun k hk hc hp => (E.block k (Nat.lt_of_lt_of_le hk h.size) (fun hh => by rcases hr k hk hh.symm with h | h <;> contradiction)).trans (h.block k hk hc hp)⟩
theorem Gr2.step0 (h : Gr2 w w1 c p) (E : w1.grownBy w2 none) : Gr2 w w2 c p := h.go E (by simp)
theorem Gr2.stepA (h : Gr2 w w1 c p) (E : w1.grownBy w2 c) : Gr2 w w2 c p := h.go E fun k _ hk => .inl hk.symm
theorem Gr2.stepB (h : Gr2 w w1 c p) (E : w1.grownBy w2 p) : Gr2 w w2 c p := h.go E fun k _ hk => .inr hk.symm
theorem Gr2.step1 (h : Gr2 w w1 c p) (E : w1.grownBy w2 (some b)) (hb : w.heap.size ≤ b) : Gr2 w w2 c p := h.go E fun k hk hh => by cases hh; omega
theorem Gr2.stepO (h : Gr2 w w1 c p) (O : Own w1 base e sz v n cs) (E : w1.grownBy w2 v.ownBlock) (hb : w.heap.size ≤ base) : Gr2 w w2 c p := h.go E fun k hk hh => by have := (O.lt k hh).1; omega
/-- As two steps: first the one, then the other. -/
theorem Gr2.split (h : Gr2 w w' c p) : ∃ w1, w.grownBy w1 c ∧ w1.grownBy w' p := by
  cases p with
  | none => exact ⟨w', ⟨h.os, h.tape, h.output, h.size, fun k hk hc => h.block k hk hc (by simp)⟩, grown_refl _ _⟩
  | some p =>
    by_cases hp : p < w.heap.size
    · have hp' : p < w'.heap.size := Nat.lt_of_lt_of_le hp h.size
      refine ⟨{ w' with heap := w'.heap.set p w.heap[p] hp' }, ⟨h.os, h.tape, h.output, by simpa using h.size, fun k hk hc => ?_⟩, ⟨rfl, rfl, rfl, by simp, fun k hk hk2 => ?_⟩⟩
      · show (w'.heap.set p w.heap[p] hp')[k]? = w.heap[k]?
        by_cases e : k = p
        · subst e; simp [hp, hp']
        · rw [Array.getElem?_set_ne _ (fun h => e h.symm)]; exact h.block k hk hc (by simpa using e)
      · show w'.heap[k]? = (w'.heap.set p w.heap[p] hp')[k]?
        rw [Array.getElem?_set_ne _ (fun h => hk2 (by rw [h]))]
    · exact ⟨w', ⟨h.os, h.tape, h.output, h.size, fun k hk hc => h.block k hk hc (fun e => hp (by cases e; exact hk))⟩, grown_refl _ _⟩
theorem Gr2.of (E : w.grownBy w' row) (h : row = c ∨ row = p) : Gr2 w w' c p := (Gr2.refl w c p).go E fun k _ hk => by rcases h with h | h <;> simp_all
end

/-! ### operations -/
section
variable {P : Program} {Q : Exit → Act → World → Prop} {a : Act} {w w' : World} {l : List (Nat × Value)} {ops : Array Oper} {rest : List Oper}
variable {d ty t e c cap : Nat} {p : String} {af : Array Edge} {x y : Operand} {v z : Value} {buf : List Value} {dir : ChanDir}
theorem op_mkchan {n by_ : Nat} {k : IntKind} (ht : P.underlying t = some (.chan dir e)) (hi0 : (P.info? e).map (·.bytes) = some by_) (hx : (putsL a l).eval x = .int k (n : Int)) (hn : n ≤ 1000000) (hb : by_ ≤ 1000000)
    (h : ∀ w' c, w.heap.size ≤ c → c < w'.heap.size → ChC w' c n [] → w.grownBy w' none → wpList P ops Q rest (putsL a ((d, .chan (some c)) :: l)) w') :
    wpList P ops Q (⟨some d, .makeChan t x, ty, p, af, none⟩ :: rest) (putsL a l) w := by
  obtain ⟨i, hi, rfl⟩ := Option.map_eq_some_iff.1 hi0
  have hm : i.bytes * n ≤ 1000000 * 1000000 := Nat.mul_le_mul hb hn
  have h1 : ¬ ((n : Int) < 0 ∨ (n : Int) > IntKind.i64.max ∨ (i.bytes : Int) * (n : Int) > 2 ^ 48 - 112) := by
    have : ((i.bytes * n : Nat) : Int) = (i.bytes : Int) * (n : Int) := by simp
    rw [← this, show IntKind.i64.max = 9223372036854775807 from by decide]; omega
  refine op_gen (w' := w.alloc (.chan n #[] false 0 0 false)) (v := .chan (some w.heap.size)) rfl ?_ (h _ _ (Nat.le_refl _) (by simp) ⟨0, 0, heap_alloc_new w _⟩ (grown_alloc w _))
  simp only [execOp, hx, Instr.makeChan, asInt, asIntOf, Sem.run_bind, Sem.run_pure, Result.andThen_ok, run_underlying ht, run_typeInfo w hi, if_neg h1, run_newObj_alloc, Int.toNat_natCast]
theorem op_len_chan (ht : P.underlying t = some (.chan dir e)) (hx : (putsL a l).eval x = .chan (some c)) (C : ChC w c cap buf) (h : wpList P ops Q rest (putsL a ((d, .int .i64 (buf.length : Int)) :: l)) w) :
    wpList P ops Q (⟨some d, .call ⟨.builtin .len, #[x], #[t]⟩, ty, p, af, none⟩ :: rest) (putsL a l) w := by
  obtain ⟨s, r, C⟩ := C
  exact op_gen rfl (by simp [execOp, hx, resolve, invoke, builtin, Builtin.len_, run_underlying ht, run_getObj_chan _ _ C, goInt]) h
theorem op_len_chanL {α : Type} {f : α → Value} {L : List α} (ht : P.underlying t = some (.chan dir e)) (hx : (putsL a l).eval x = .chan (some c)) (C : ChC w c cap (L.map f)) (h : wpList P ops Q rest (putsL a ((d, .int .i64 (L.length : Int)) :: l)) w) :
    wpList P ops Q (⟨some d, .call ⟨.builtin .len, #[x], #[t]⟩, ty, p, af, none⟩ :: rest) (putsL a l) w := op_len_chan ht hx C (by simpa using h)
theorem op_cap_chan (ht : P.underlying t = some (.chan dir e)) (hx : (putsL a l).eval x = .chan (some c)) (C : ChC w c cap buf) (h : wpList P ops Q rest (putsL a ((d, .int .i64 (cap : Int)) :: l)) w) :
    wpList P ops Q (⟨some d, .call ⟨.builtin .cap, #[x], #[t]⟩, ty, p, af, none⟩ :: rest) (putsL a l) w := by
  obtain ⟨s, r, C⟩ := C
  exact op_gen rfl (by simp [execOp, hx, resolve, invoke, builtin, Builtin.cap_, run_underlying ht, run_getObj_chan _ _ C, goInt]) h
theorem op_len_nilchan (ht : P.underlying t = some (.chan dir e)) (hx : (putsL a l).eval x = .chan none) (h : wpList P ops Q rest (putsL a ((d, .int .i64 0) :: l)) w) :
    wpList P ops Q (⟨some d, .call ⟨.builtin .len, #[x], #[t]⟩, ty, p, af, none⟩ :: rest) (putsL a l) w :=
  op_gen rfl (by simp [execOp, hx, resolve, invoke, builtin, Builtin.len_, run_underlying ht, goInt]) h
theorem op_cap_nilchan (ht : P.underlying t = some (.chan dir e)) (hx : (putsL a l).eval x = .chan none) (h : wpList P ops Q rest (putsL a ((d, .int .i64 0) :: l)) w) :
    wpList P ops Q (⟨some d, .call ⟨.builtin .cap, #[x], #[t]⟩, ty, p, af, none⟩ :: rest) (putsL a l) w :=
  op_gen rfl (by simp [execOp, hx, resolve, invoke, builtin, Builtin.cap_, run_underlying ht, goInt]) h
theorem putsL_put (a : Act) (l : List (Nat × Value)) (d : Nat) (v : Value) : (putsL a l).put (some d) v = putsL a ((d, v) :: l) := rfl
theorem run_zeroT (hz : zeroT P e = some z) (w : World) : (zeroValue e).run P w = .ok z w := by
  unfold zeroT at hz
  cases hi : P.info? e with
  | none => simp [hi] at hz
  | some i =>
    simp [hi] at hz
    simp [zeroValue, run_typeInfo w hi, hz]
/-- 'select' of one receive with a default. -/
theorem reg_recv {id : Nat} {α : Type} {f : α → Value} {L : List α} (hz : zeroT P e = some z) (hx : (putsL a l).eval x = .chan (some c)) (C : ChC w c cap (L.map f))
    (hs : ∀ y M w', L = y :: M → ChC w' c cap (M.map f) → w.grownBy w' (some c) → wpList P (⟨some d, .select #[⟨x, none, e⟩] false, ty, p, af, none⟩ :: rest).toArray Q rest (putsL a ((d, .tuple #[.int .i64 0, .bool true, f y]) :: l)) w')
    (hn : L = [] → wpList P (⟨some d, .select #[⟨x, none, e⟩] false, ty, p, af, none⟩ :: rest).toArray Q rest (putsL a ((d, .tuple #[.int .i64 (-1), .bool false, z]) :: l)) w) :
    (Code.region id (⟨some d, .select #[⟨x, none, e⟩] false, ty, p, af, none⟩ :: rest).toArray false).wp P Q (putsL a l) w := by
  obtain ⟨s, r, C⟩ := C
  have hrun : (execOp (putsL a l).eval ⟨some d, .select #[⟨x, none, e⟩] false, ty, p, af, none⟩).run P w = .ok (.comm #[rcase c z] false .select) w := by
    simp [execOp, hx, run_zeroT hz, rcase]
  refine la_first ?_
  cases L with
  | nil =>
    refine la_comm (v := .tuple #[.int .i64 (-1), .bool false, z]) (w1 := w) (w2 := w) (o := ⟨some d, .select #[⟨x, none, e⟩] false, ty, p, af, none⟩) rfl rfl hrun (fun fr cs es h => step_lone_select_default h C) ?_
    exact la_rest (hn rfl)
  | cons y M =>
    refine la_comm (v := .tuple #[.int .i64 0, .bool true, f y]) (w1 := w) (w2 := w.setChan c cap ((List.map f (y :: M)).toArray.extract 1 (List.map f (y :: M)).toArray.size) false s (r + 1) false) (o := ⟨some d, .select #[⟨x, none, e⟩] false, ty, p, af, none⟩) rfl rfl hrun (fun fr cs es h => by
      have := step_lone_select_recv_buf h C (by simp)
      simpa [goInt] using this) ?_
    refine la_rest (hs y M _ rfl ⟨s, r + 1, ?_⟩ (grown_setChan w c cap _ s (r + 1)))
    have hlt := (Array.getElem?_eq_some_iff.1 C).1
    rw [heap_setChan w c cap _ false s (r + 1) false hlt]
    simp [List.take_of_length_le]
/-- 'select' of one send with a default. -/
theorem reg_send {id : Nat} (hz : zeroT P e = some z) (hx : (putsL a l).eval x = .chan (some c)) (hy : (putsL a l).eval y = v) (C : ChC w c cap buf)
    (hs : ∀ w', buf.length < cap → ChC w' c cap (buf ++ [v]) → w.grownBy w' (some c) → wpList P (⟨some d, .select #[⟨x, some y, e⟩] false, ty, p, af, none⟩ :: rest).toArray Q rest (putsL a ((d, .tuple #[.int .i64 0, .bool false]) :: l)) w')
    (hn : cap ≤ buf.length → wpList P (⟨some d, .select #[⟨x, some y, e⟩] false, ty, p, af, none⟩ :: rest).toArray Q rest (putsL a ((d, .tuple #[.int .i64 (-1), .bool false]) :: l)) w) :
    (Code.region id (⟨some d, .select #[⟨x, some y, e⟩] false, ty, p, af, none⟩ :: rest).toArray false).wp P Q (putsL a l) w := by
  obtain ⟨s, r, C⟩ := C
  have hrun : (execOp (putsL a l).eval ⟨some d, .select #[⟨x, some y, e⟩] false, ty, p, af, none⟩).run P w = .ok (.comm #[scase c v z] false .select) w := by
    simp [execOp, hx, hy, run_zeroT hz, scase]
  refine la_first ?_
  by_cases hr : buf.length < cap
  · refine la_comm (v := .tuple #[.int .i64 0, .bool false]) (w1 := w) (w2 := w.setChan c cap (buf.toArray.push v) false (s + 1) r false) (o := ⟨some d, .select #[⟨x, some y, e⟩] false, ty, p, af, none⟩) rfl rfl hrun (fun fr cs es h => step_lone_select_send_room h C (by simpa using hr)) ?_
    refine la_rest (hs _ hr ⟨s + 1, r, ?_⟩ (grown_setChan w c cap _ (s + 1) r))
    have hlt := (Array.getElem?_eq_some_iff.1 C).1
    rw [heap_setChan w c cap _ false (s + 1) r false hlt]
    simp
  · refine la_comm (v := .tuple #[.int .i64 (-1), .bool false]) (w1 := w) (w2 := w) (o := ⟨some d, .select #[⟨x, some y, e⟩] false, ty, p, af, none⟩) rfl rfl hrun (fun fr cs es h => step_lone_select_send_full h C (by simp; omega)) ?_
    exact la_rest (hn (by omega))
/-- A send at a region's end. -/
theorem last_send {i : Nat} (ho : ops[i]? = some ⟨none, .send x y, ty, p, af, none⟩) (hx : (putsL a l).eval x = .chan (some c)) (hy : (putsL a l).eval y = v) (C : ChC w c cap buf) (hr : buf.length < cap)
    (h : ∀ w', ChC w' c cap (buf ++ [v]) → w.grownBy w' (some c) → Q .normal (putsL a l) w') : LA P ops Q [i] (putsL a l) w := by
  obtain ⟨s, r, C⟩ := C
  refine la_comm (v := undef) (w1 := w) (w2 := w.setChan c cap (buf.toArray.push v) false (s + 1) r false) ho rfl (cases := #[scase c v (.tuple #[])]) (blocking := true) (shape := .send) (by simp [execOp, hx, hy, scase]) (fun fr cs es h => step_lone_send_room h C (by simpa using hr)) ?_
  refine la_nil (h _ ⟨s + 1, r, ?_⟩ (grown_setChan w c cap _ (s + 1) r))
  have hlt := (Array.getElem?_eq_some_iff.1 C).1
  rw [heap_setChan w c cap _ false (s + 1) r false hlt]
  simp
end
/-! ### lists of texts -/
def sv (s : List UInt8) : Value := .string (bs s)
theorem el_sv {l : List (List UInt8)} {e : Int} {i : Nat} (he : e = (i : Int)) (h : i < l.length) : (l.map sv)[e.toNat * 1 + 0]? = some (Value.string (bs (l.getD i []))) := by
  subst he; simp [h, sv]
theorem one_sv (l : List (List UInt8)) : (l.map sv).all Value.oneCell' = true := by simp [Value.oneCell', sv]
end Go.Gx

/- Small laws for walks, the twenty-seventh part: objects that are told by the blocks they are made of: what keeps them, and how they stand to each other. -/
namespace Go.Gx
open Go.RowKit

/-- The world went on: of what was there, only blocks of F may have turned. -/
structure Gr (w w' : World) (F : Nat → Prop) : Prop where
  os : w'.os = w.os
  tape : w'.tape = w.tape
  output : w'.output = w.output
  size : w.heap.size ≤ w'.heap.size
  block : ∀ k, k < w.heap.size → ¬ F k → w'.heap[k]? = w.heap[k]?
/-- No block is both's. -/
def Dj (F G : Nat → Prop) : Prop := ∀ k, F k → ¬ G k
/-- The block of a list. -/
abbrev Bl (v : Value) : Nat → Prop := fun k => v.ownBlock = some k
/-- All blocks are of F, or new. -/
def NewF (n : Nat) (F F' : Nat → Prop) : Prop := ∀ k, F' k → F k ∨ n ≤ k
abbrev NoB : Nat → Prop := fun _ => False

section
variable {w w0 w1 w2 w' : World} {F G H F' : Nat → Prop} {row : Option Nat} {base e sz n b t L B c cap : Nat} {cs buf : List Value} {v u : Value}
theorem Gr.refl (w : World) (F : Nat → Prop) : Gr w w F := ⟨rfl, rfl, rfl, Nat.le_refl _, fun _ _ _ => rfl⟩
theorem Gr.go (h : Gr w w1 F) (E : Gr w1 w2 G) (hG : ∀ k, k < w.heap.size → G k → F k) : Gr w w2 F :=
  ⟨E.os.trans h.os, E.tape.trans h.tape, E.output.trans h.output, Nat.le_trans h.size E.size, fun k hk hn => (E.block k (Nat.lt_of_lt_of_le hk h.size) (fun hg => hn (hG k hk hg))).trans (h.block k hk hn)⟩
theorem Gr.of (E : w.grownBy w' row) : Gr w w' (fun k => row = some k) := ⟨E.os, E.tape, E.output, E.size, fun k hk hn => E.block k hk fun h => hn h.symm⟩
theorem Gr.of0 (E : w.grownBy w' none) (F : Nat → Prop) : Gr w w' F := ⟨E.os, E.tape, E.output, E.size, fun k hk _ => E.block k hk (by simp)⟩
theorem Gr.ofBelow (E : Below w.heap.size w w') (F : Nat → Prop) : Gr w w' F := Gr.of0 (grown_of_below E) F
theorem Gr.of2 {c p : Option Nat} (E : Gr2 w w' c p) : Gr w w' (fun k => c = some k ∨ p = some k) := ⟨E.os, E.tape, E.output, E.size, fun k hk hn => E.block k hk (fun h => hn (.inl h.symm)) (fun h => hn (.inr h.symm))⟩
theorem Gr.mono (E : Gr w w' F) (h : ∀ k, k < w.heap.size → F k → G k) : Gr w w' G := ⟨E.os, E.tape, E.output, E.size, fun k hk hn => E.block k hk fun hf => hn (h k hk hf)⟩
theorem Gr.grown (E : Gr w w' F) (h : ∀ k, k < w.heap.size → F k → row = some k) : w.grownBy w' row := ⟨E.os, E.tape, E.output, E.size, fun k hk hn => E.block k hk fun hf => hn (h k hk hf).symm⟩
/-! a walk's own relation -/
theorem Gr.step0 (h : Gr w w1 F) (E : w1.grownBy w2 none) : Gr w w2 F := h.go (Gr.of0 E F) fun _ _ h => h
theorem Gr.step1 (h : Gr w w1 F) (E : w1.grownBy w2 (some b)) (hb : w.heap.size ≤ b) : Gr w w2 F := h.go (Gr.of E) fun k hk hh => by injection hh with hh; omega
theorem Gr.stepB (h : Gr w w1 F) (E : w1.grownBy w2 (some b)) (hb : F b) : Gr w w2 F := h.go (Gr.of E) fun k hk hh => by injection hh with hh; exact hh ▸ hb
theorem Gr.stepO (h : Gr w w1 F) (O : Own w1 base e sz v n cs) (E : w1.grownBy w2 v.ownBlock) (hb : w.heap.size ≤ base) : Gr w w2 F := h.go (Gr.of E) fun k hk hh => by have := (O.lt k hh).1; omega
theorem Gr.stepL (h : Gr w w1 F) (E : w1.grownBy w2 v.ownBlock) (hb : ∀ k, k < w.heap.size → Bl v k → F k) : Gr w w2 F := h.go (Gr.of E) fun k hk hh => hb k hk hh
theorem Gr.stepF (h : Gr w w1 F) (E : Gr w1 w2 G) (hG : ∀ k, k < w.heap.size → G k → F k) : Gr w w2 F := h.go E hG
theorem Gr.stepN (h : Gr w w1 F) (E : Gr w1 w2 G) (hG : ∀ k, G k → w.heap.size ≤ k) : Gr w w2 F := h.go E fun k hk hg => by have := hG k hg; omega
theorem below_stepG (h : Below B w0 w) (E : Gr w w' F) (hB : B ≤ w.heap.size) (hF : ∀ k, F k → B ≤ k) : Below B w0 w' :=
  ⟨E.os.trans h.os, E.tape.trans h.tape, E.output.trans h.output, Nat.le_trans h.size E.size, fun k hk => (E.block k (Nat.lt_of_lt_of_le hk hB) (fun hf => by have := hF k hf; omega)).trans (h.block k hk)⟩
/-! what is kept -/
theorem Bx.keepG (h : Bx w b t cs) (E : Gr w w' F) (hn : ¬ F b) : Bx w' b t cs := by unfold Bx; rw [E.block b h.lt hn]; exact h
theorem ChC.keepG (h : ChC w c cap buf) (E : Gr w w' F) (hn : ¬ F c) : ChC w' c cap buf := by have hl := h.lt; obtain ⟨s, r, h⟩ := h; exact ⟨s, r, (E.block c hl hn).trans h⟩
theorem Own.keepG (h : Own w base e sz v n cs) (E : Gr w w' F) (hd : Dj (Bl v) F) : Own w' base e sz v n cs := by
  refine ⟨h.1, ?_⟩
  rcases h.2 with hn | ⟨g, off, cap, cur, fr, rfl, hb, hg, r⟩
  · exact .inl hn
  · exact .inr ⟨g, off, cap, cur, fr, rfl, hb, by rw [E.block g (Array.getElem?_eq_some_iff.1 hg).1 (hd g rfl)]; exact hg, r⟩
theorem RdC.keepG (h : RdC w L B sz v n cs) (E : Gr w w' F) (hn : ∀ k, F k → k < L ∨ B ≤ k) : RdC w' L B sz v n cs := by
  obtain ⟨h0, a, c, hv, h1, h2, h3⟩ := h
  refine ⟨h0, a, c, hv, h1, h2, ?_⟩
  rcases h3 with h3 | ⟨b, off, ha, hL, hB, hc⟩
  · exact .inl h3
  · refine .inr ⟨b, off, ha, hL, hB, fun j u hu => ?_⟩
    have := hc j u hu
    rw [World.cell?_of_block (w := w) (E.block b (World.block_lt_of_cell? w _ this) (fun hf => by have := hn b hf; omega))]
    exact this
/-! how they stand to each other -/
theorem Dj.symm (h : Dj F G) : Dj G F := fun k hg hf => h k hf hg
theorem Dj.step {v' : Value} (hm : v'.ownBlock = v.ownBlock ∨ ∀ k, v'.ownBlock = some k → n ≤ k) (hl : ∀ k, F k → k < n) (h : Dj F (Bl v)) : Dj F (Bl v') := by
  intro k hk hg
  rcases hm with hm | hm
  · exact h k hk (hm.symm.trans hg)
  · have := hm k hg; have := hl k hk; omega
theorem Dj.stepF (hm : NewF n F F') (hl : ∀ k, G k → k < n) (h : Dj G F) : Dj G F' := by
  intro k hk hg
  rcases hm k hg with hm | hm
  · exact h k hk hm
  · have := hl k hk; omega
theorem Dj.fresh (hl : ∀ k, G k → k < n) (hf : ∀ k, F k → n ≤ k) : Dj G F := fun k hg hk => by have := hl k hg; have := hf k hk; omega
theorem Dj.nil (F : Nat → Prop) : Dj F (Bl (.slice none 0 0)) := fun _ _ hg => (by cases hg)
theorem Dj.mono (h : Dj F G) {G' : Nat → Prop} (hG : ∀ k, G' k → G k) : Dj F G' := fun k hf hg => h k hf (hG k hg)
theorem NewF.refl (n : Nat) (F : Nat → Prop) : NewF n F F := fun _ h => .inl h
theorem NewF.trans (h : NewF n F G) (h2 : NewF t G H) (hn : n ≤ t) : NewF n F H := fun k hk => by
  rcases h2 k hk with q | q
  · exact h k q
  · exact .inr (Nat.le_trans hn q)
theorem NewF.ge (h : NewF n F F') (hF : ∀ k, F k → B ≤ k) (hB : B ≤ n) : ∀ k, F' k → B ≤ k := fun k hk => by
  rcases h k hk with q | q
  · exact hF k q
  · omega
theorem Dj.one (h : ¬ F b) : Dj F (fun k => some b = some k) := fun k hf hk => by injection hk with hk; subst hk; exact h hf
theorem grow_stepN (h : w0.grownBy w row) (E : Gr w w' F) (hF : ∀ k, F k → w0.heap.size ≤ k) : w0.grownBy w' row :=
  ⟨E.os.trans h.os, E.tape.trans h.tape, E.output.trans h.output, Nat.le_trans h.size E.size, fun k hk hne => (E.block k (Nat.lt_of_lt_of_le hk h.size) (fun hf => by have := hF k hf; omega)).trans (h.block k hk hne)⟩
theorem ne_stepF (hm : NewF n F F') (hl : b < n) (h : ¬ F b) : ¬ F' b := fun hg => by
  rcases hm b hg with hm | hm
  · exact h hm
  · omega
end
/-! one's own list, cut ahead: it is one's own still -/
section
variable {P : Program} {Q : Exit → Act → World → Prop} {a : Act} {w : World} {l : List (Nat × Value)} {ops : Array Oper} {rest : List Oper}
variable {d ty t e : Nat} {p : String} {af : Array Edge} {x : Operand} {v : Value} {n base sz by_ : Nat} {cs : List Value} {zv : Value}
theorem Own.dropV {ad : Option Addr} {c k : Nat} (O : Own w base e sz (.slice ad n c) n cs) (hk : k ≤ n) : Own w base e sz (.slice (if c = k then ad else ad.map (·.add (k * sz))) (n - k) (c - k)) (n - k) (cs.drop (k * sz)) := by
  obtain ⟨hl, ⟨hv, rfl⟩ | ⟨g, off, cap, cur, fr, hv, hb, hg, hf, hnc, hcm, hfit, htk⟩⟩ := O
  · injection hv with h1 h2 h3
    subst h1; subst h3
    have : k = 0 := by omega
    subst this
    have hcs : cs = [] := List.length_eq_zero_iff.1 (by simpa using hl)
    subst hcs
    simpa using Own.nil w base e sz
  · injection hv with h1 h2 h3
    subst h1; subst h3
    have hmul : (n - k) * sz = n * sz - k * sz := Nat.sub_mul _ _ _
    by_cases hck : c = k
    · subst hck
      have : n = c := by omega
      subst this
      rw [if_pos rfl]
      refine ⟨by simp [hl], .inr ⟨g, off, _, cur, fr, rfl, hb, hg, hf, by omega, by omega, by simp; omega, by simp [hl]⟩⟩
    · rw [if_neg hck, Option.map_some, Addr.add_lit]
      have h2 : k * sz + (c - k) * sz = c * sz := by rw [← Nat.add_mul]; congr 1; omega
      refine ⟨by rw [List.length_drop, hl, hmul], .inr ⟨g, off + k * sz, _, cur, fr, rfl, hb, hg, hf, by omega, by omega, by omega, ?_⟩⟩
      rw [← htk, hmul, ← List.drop_drop, ← List.drop_take]
theorem op_slice_own_lo {lo : Operand} {k : Nat} {kk : IntKind} {r : Int} (T : SlT P t e zv sz by_) (hx : (putsL a l).eval x = v) (O : Own w base e sz v n cs) (hl : (putsL a l).eval lo = .int kk r) (hr : r = (k : Int)) (hk : k ≤ n)
    (h : ∀ v', Own w base e sz v' (n - k) (cs.drop (k * sz)) → v'.ownBlock = v.ownBlock → wpList P ops Q rest (putsL a ((d, v') :: l)) w) :
    wpList P ops Q (⟨some d, .slice t x (some lo) none none, ty, p, af, none⟩ :: rest) (putsL a l) w := by
  obtain ⟨inf, hi, hz0, hz1, hz2⟩ := info_parts T.info
  subst hr
  have O' := O
  have R := O.rdw
  obtain ⟨hl0, ad, c, rfl, hnc, hcm, _⟩ := R
  have O2 := O.dropV hk
  have e1 : ¬ ((n : Int) < (k : Int)) := by omega
  have e2 : ¬ ((c : Int) < (n : Int)) := by omega
  have e3 : ¬ n < k := by omega
  have e4 : ¬ c < n := by omega
  refine op_gen (v := .slice (if c = k then ad else ad.map (·.add (k * sz))) (n - k) (c - k)) rfl ?_ (h _ O2 ?_)
  · by_cases hck : c = k
    · subst hck
      have : n = c := by omega
      subst this
      simp [execOp, hx, hl, Instr.sliceAt, Instr.slice, run_underlying T.und, Instr.sliceBounds, Instr.sliceBound, asIntOf, sizeOf, typeInfo, hi, hz1]
    · simp [execOp, hx, hl, Instr.sliceAt, Instr.slice, run_underlying T.und, Instr.sliceBounds, Instr.sliceBound, asIntOf, sizeOf, typeInfo, hi, hz1, hk, hnc, hck]
  · split
    · cases ad <;> rfl
    · rcases O'.2 with ⟨hv, _⟩ | ⟨g, off, _, _, _, hv, _⟩
      · injection hv with h1; subst h1; rfl
      · injection hv with h1; subst h1; simp [Value.ownBlock, Addr.add_lit]
end
end Go.Gx

/- Plain facts on letters that wait: lists by heads and tails. -/
namespace Go.Gx
theorem getD_front {α : Type} {H B : List α} {d : α} (h : 0 < H.length) : H.getD 0 d = (H ++ B).getD 0 d := by
  cases H with
  | nil => simp at h
  | cons x H => rfl
theorem take0 {α : Type} {H : List α} (h1 : H.length ≤ 1) (h : 0 < H.length) (B : List α) : ([] : List α) ++ B = (H ++ B).drop 1 := by
  cases H with
  | nil => simp at h
  | cons x H => cases H with
    | nil => rfl
    | cons y H => simp at h1
/-- How a list stands to the one that was there: its block is that one's, or a new one. -/
def FrO (v u : Go.Value) (n : Nat) : Prop := u.ownBlock = v.ownBlock ∨ ∀ k, u.ownBlock = some k → n ≤ k
theorem FrO.refl (v : Go.Value) (n : Nat) : FrO v v n := .inl rfl
theorem FrO.nil (v : Go.Value) (n : Nat) : FrO v (.slice none 0 0) n := .inr fun _ hk => (by cases hk)
theorem FrO.new (v u : Go.Value) {n : Nat} (h : ∀ k, u.ownBlock = some k → n ≤ k) : FrO v u n := .inr h
theorem FrO.trans {v u x : Go.Value} {n m : Nat} (h : FrO v u n) (h2 : FrO u x m) (hm : n ≤ m) : FrO v x n := by
  rcases h2 with h2 | h2
  · rcases h with h | h
    · exact .inl (h2.trans h)
    · exact .inr fun k hk => h k (h2 ▸ hk)
  · exact .inr fun k hk => Nat.le_trans hm (h2 k hk)
/-- What is taken first. -/
def hd0 {α : Type} (L : List α) (d : α) : α := L.getD 0 d
theorem one_i64 (l : List Int) : (l.map (Value.int .i64)).all Value.oneCell' = true := by simp [Value.oneCell']
/-- A list that goes round. -/
theorem rot_go {α : Type} {B M : List α} {y : α} {i : Nat} (hi : i < B.length) (h : B.drop i ++ B.take i = y :: M) : M ++ [y] = B.drop (i + 1) ++ B.take (i + 1) ∧ B.take i ++ [y] = B.take (i + 1) := by
  have hd : B.drop i = B[i] :: B.drop (i + 1) := List.drop_eq_getElem_cons hi
  rw [hd, List.cons_append] at h
  obtain ⟨h1, h2⟩ := List.cons.inj h
  subst h1
  have ht : B.take i ++ [B[i]] = B.take (i + 1) := by simp [List.take_append_getElem, hi]
  exact ⟨by rw [← h2, List.append_assoc, ht], ht⟩
/-- Letters that wait: a post at block p with its channel and its list. -/
def PostR {α : Type} (f : α → Value) (t e : Nat) (w : World) (base p cap : Nat) (L : List α) (F : Nat → Prop) : Prop :=
  ∃ (c : Nat) (hv : Value) (H B : List α), H ++ B = L ∧ H.length ≤ 1 ∧ H.length + B.length ≤ cap ∧ cap ≤ 1000 ∧ base ≤ p ∧ base ≤ c ∧ Bx w p t [.chan (some c), hv] ∧ Own w base e 1 hv H.length (H.map f) ∧ ChC w c cap (B.map f) ∧ (∀ k, F k ↔ k = p ∨ k = c ∨ hv.ownBlock = some k)
section
variable {α : Type} {f : α → Value} {t e base p cap : Nat} {w w' : World} {L : List α} {F G : Nat → Prop}
theorem PostR.lt (h : PostR f t e w base p cap L F) : ∀ k, F k → base ≤ k ∧ k < w.heap.size := by
  obtain ⟨c, hv, H, B, _, _, _, _, hp, hc, hx, O, C, hF⟩ := h
  intro k hk
  rcases (hF k).1 hk with rfl | rfl | hk
  · exact ⟨hp, hx.lt⟩
  · exact ⟨hc, C.lt⟩
  · exact O.lt k hk
theorem PostR.keepG (h : PostR f t e w base p cap L F) (E : Gr w w' G) (hd : Dj F G) : PostR f t e w' base p cap L F := by
  obtain ⟨c, hv, H, B, h1, h2, h3, h4, hp, hc, hx, O, C, hF⟩ := h
  exact ⟨c, hv, H, B, h1, h2, h3, h4, hp, hc, hx.keepG E (hd p ((hF p).2 (.inl rfl))), O.keepG E (fun k hk => hd k ((hF k).2 (.inr (.inr hk)))), C.keepG E (hd c ((hF c).2 (.inr (.inl rfl)))), hF⟩
theorem PostR.cap_le (h : PostR f t e w base p cap L F) : L.length ≤ cap ∧ cap ≤ 1000 := by
  obtain ⟨c, hv, H, B, rfl, h2, h3, h4, _⟩ := h
  exact ⟨by simpa using h3, h4⟩
theorem PostR.mono {base' : Nat} (h : PostR f t e w base p cap L F) (hb : base' ≤ base) : PostR f t e w base' p cap L F := by
  obtain ⟨c, hv, H, B, h1, h2, h3, h4, hp, hc, hx, O, C, hF⟩ := h
  exact ⟨c, hv, H, B, h1, h2, h3, h4, Nat.le_trans hb hp, Nat.le_trans hb hc, hx, O.mono hb, C, hF⟩
/-- what is there behind a turn of the post's own blocks -/
theorem PostR.turn {c : Nat} {hv hv' : Value} {H' B' : List α} {w : World} {L' : List α} (hF : ∀ k, F k ↔ k = p ∨ k = c ∨ hv.ownBlock = some k) (E : Gr2 w w' (some c) (some p)) (hx : Bx w' p t [.chan (some c), hv']) (O : Own w' base e 1 hv' H'.length (H'.map f)) (C : ChC w' c cap (B'.map f)) (hL : H' ++ B' = L') (hl : H'.length ≤ 1) (hcap : L'.length ≤ cap) (hcm : cap ≤ 1000) (hp : base ≤ p) (hc : base ≤ c) (hm : FrO hv hv' w.heap.size) :
    Gr w w' F ∧ ∃ F', PostR f t e w' base p cap L' F' ∧ NewF w.heap.size F F' := by
  refine ⟨(Gr.of2 E).mono fun k _ hk => ?_, fun k => k = p ∨ k = c ∨ hv'.ownBlock = some k, ⟨c, hv', H', B', hL, hl, by rw [← hL] at hcap; simpa using hcap, hcm, hp, hc, hx, O, C, fun k => Iff.rfl⟩, fun k hk => ?_⟩
  · rcases hk with hk | hk
    · injection hk with hk; exact (hF k).2 (.inr (.inl hk.symm))
    · injection hk with hk; exact (hF k).2 (.inl hk.symm)
  · rcases hk with hk | hk | hk
    · exact .inl ((hF k).2 (.inl hk))
    · exact .inl ((hF k).2 (.inr (.inl hk)))
    · rcases hm with hm | hm
      · exact .inl ((hF k).2 (.inr (.inr (hm ▸ hk))))
      · exact .inr (hm k hk)
/-- what is put, if there is room -/
def putL {α : Type} (cap : Nat) (L : List α) (x : α) : List α := if L.length < cap then L ++ [x] else L
theorem putL_take {α : Type} {A : List α} {i cap : Nat} {d : α} (hi : i < A.length) (hc : A.length ≤ cap) : putL cap (A.take i) (A.getD i d) = A.take (i + 1) := by
  unfold putL
  rw [if_pos (by simp; omega)]
  simp [List.getD_eq_getElem?_getD, hi, List.take_append_getElem]
end
end Go.Gx
