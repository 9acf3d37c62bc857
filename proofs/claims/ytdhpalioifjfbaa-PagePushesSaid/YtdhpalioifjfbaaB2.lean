/- Small laws for walks, the sixteenth part: a region whose order is open, in which one's own list is read, and then written in a chain. -/
import Derived.Lib.SliceRun
import Derived.Lib.AppendZeros
import Derived.StillTail
import Derived.Test.YtdhpalioifjfbaaProg
import Derived.KernelRfl
import Derived.Test.YtdhpalioifjfbaaB1
namespace Go.Gx
open Go.RowKit
section
variable {P : Program} {ol : List Oper} {Q : Exit → Act → World → Prop} {Φ : Nat → Value → World → Prop} {C : Nat → Value → World → Prop} {ch : Chain} {R : World → World → Prop} {a0 : Act} {N : Nat}
def ObM (P : Program) (ol : List Oper) (Φ : Nat → Value → World → Prop) (C : Nat → Value → World → Prop) (ch : Chain) (a0 : Act) (N : Nat) (w0 : World) (R : World → World → Prop) (i : Nat) (o : Oper) : Prop :=
  ∀ (a : Act) (w : World) (c : Nat), a.tmps.size = N → R w0 w → c ≤ ch.ops.length → (∀ m k, ch.ops[m]? = some k → depB ol k i = true → c ≤ m) → C c (a.tmps.getD (ch.slot c) undef) w →
    (∀ t, safeB ol i t = true → a.tmps.getD t undef = a0.tmps.getD t undef) → (∀ j oj d, depB ol i j = true → ol[j]? = some oj → oj.dst = some d → Φ j (a.tmps.getD d undef) w) →
    wpList P ol.toArray (fun e a' w' => e = .normal ∧ (∃ d v, o.dst = some d ∧ a' = putsL a [(d, v)] ∧ Φ i v w') ∧ w.grownBy w' none) [o] (putsL a []) w
theorem region_mid_steps (hlex : lexB' ol = true) (hdn : dstNB ol N = true) (hdst : dstsB ol = true) (hch : ch.okB ol = true) (w0 : World)
    (hRt : ∀ w1 w2 w3, R w1 w2 → R w2 w3 → R w1 w3) (hR0 : ∀ w1 w2, w1.grownBy w2 none → R w1 w2)
    (hΦ : ∀ j u w1 w2, R w1 w2 → Φ j u w1 → Φ j u w2) (hC : ∀ c u w1 w2, w1.grownBy w2 none → C c u w1 → C c u w2)
    (obN : ∀ i o, ol[i]? = some o → ch.has i = false → ObM P ol Φ C ch a0 N w0 R i o) (obC : ∀ c i o, ch.ops[c]? = some i → ol[i]? = some o → ObC P ol Φ C ch a0 N w0 R c i o)
    (fin : ∀ a w, RInv ol Φ C ch a0 N w0 R (Array.replicate ol.length true) ch.ops.length a w → Q .normal a w) :
    ∀ (fuel : Nat) (listed : Array Bool) (c : Nat) (a : Act) (w : World), RInv ol Φ C ch a0 N w0 R listed c a w → (List.range ol.length).countP (fun i => !listed.getD i true) ≤ fuel → wpAny P .any ol.toArray Q fuel listed a w := by
  have hch' := hch
  simp only [Chain.okB, Bool.and_eq_true] at hch'
  obtain ⟨⟨⟨hc1, hc2⟩, hc3⟩, hc4⟩ := hch'
  have done : ∀ (listed : Array Bool) (c : Nat) (a : Act) (w : World), RInv ol Φ C ch a0 N w0 R listed c a w → Region.ready .any ol.toArray listed = [] → Q .normal a w := by
    intro listed c a w I hr
    have hall : ∀ i, i < ol.length → listed.getD i true = true := by
      intro i
      induction i using Nat.strongRecOn with
      | _ i ih =>
        intro hi
        by_cases hq : listed.getD i true = true
        · exact hq
        · exfalso
          have hm : i ∈ Region.ready .any ol.toArray listed := by
            rw [mem_ready]
            refine ⟨by simpa using hq, ol[i], by simp [hi], fun e he hb => ?_⟩
            have h1 := List.all_eq_true.1 hlex i (by simp [hi])
            simp only [List.getElem?_eq_getElem hi, Array.all_eq_true_iff_forall_mem, Bool.or_eq_true, Bool.not_eq_true', Nat.blt_eq] at h1
            have h2 := (h1 e he).resolve_left (by simp [hb])
            exact getD_true_lt (ih e.on h2 (by omega)) (by rw [I.lsize]; omega)
          rw [hr] at hm
          cases hm
    have hl : listed = Array.replicate ol.length true := by
      apply Array.ext
      · simp [I.lsize]
      · intro i h1 h2
        have := hall i (by simpa using h2)
        simp [Array.getD_eq_getD_getElem?, h1] at this
        simp [this]
    have hcc : c = ch.ops.length := by
      rcases Nat.lt_or_ge c ch.ops.length with h | h
      · exfalso
        have h1 := (I.chain c ch.ops[c] (by simp [h])).1 (hall _ (by
          have := List.all_eq_true.1 hc3 ch.ops[c] (List.getElem_mem h)
          simpa [Nat.blt_eq] using this))
        omega
      · exact Nat.le_antisymm I.cle h
    subst hl; subst hcc
    exact fin a w I
  intro fuel
  induction fuel with
  | zero =>
    intro listed c a w I hcnt
    have hr : Region.ready .any ol.toArray listed = [] := by
      rw [List.eq_nil_iff_forall_not_mem]
      intro i hi
      obtain ⟨h1, o, ho, _⟩ := mem_ready.1 hi
      have hlt : i < ol.length := by simpa using (Array.getElem?_eq_some_iff.1 ho).1
      have hz : (List.range ol.length).countP (fun i => !listed.getD i true) = 0 := by omega
      rw [List.countP_eq_zero] at hz
      exact hz i (by simp [hlt]) (by simp [h1])
    exact ⟨hr, done listed c a w I hr⟩
  | succ fuel ih =>
    intro listed c a w I hcnt
    refine ⟨fun hr => done listed c a w I hr, fun i hi => ?_⟩
    obtain ⟨hun, o, ho, hwait⟩ := mem_ready.1 hi
    have ho' : ol[i]? = some o := by simpa using ho
    have hlt : i < ol.length := (List.getElem?_eq_some_iff.1 ho').1
    have hls : i < listed.size := by rw [I.lsize]; exact hlt
    have hcnt' : (List.range ol.length).countP (fun j => !(listed.setIfInBounds i true).getD j true) ≤ fuel := by
      have : (List.range ol.length).countP (fun j => !(listed.setIfInBounds i true).getD j true) < (List.range ol.length).countP (fun j => !listed.getD j true) := by
        refine countP_lt _ _ (fun y hy => ?_) _ i (by simp [hlt]) (by simp [hun]) (by simp [Array.getD_eq_getD_getElem?, hls])
        by_cases hiy : i = y
        · subst hiy; simp [Array.getD_eq_getD_getElem?, hls] at hy
        · rwa [getD_set_ne true hiy] at hy
      omega
    have hbase : ∀ t, safeB ol i t = true → a.tmps.getD t undef = a0.tmps.getD t undef := by
      intro t ht
      refine I.base t fun j oj hj hlj hd => ?_
      have h1 := List.all_eq_true.1 ht oj (List.mem_of_getElem? hj)
      simp only [Bool.or_eq_true, bne_iff_ne, ne_eq, Array.any_eq_true, Bool.and_eq_true, beq_iff_eq] at h1
      rcases h1 with h1 | ⟨q, hq, h1, h2⟩
      · exact h1 hd
      · have := getD_of_false (I.closed j oj hj hlj _ (Array.getElem_mem hq) h2)
        rw [h1, hun] at this
        cases this
    have hdep : ∀ j oj d, depB ol i j = true → ol[j]? = some oj → oj.dst = some d → Φ j (a.tmps.getD d undef) w := by
      intro j oj d hj hoj hd
      obtain ⟨e, he, h1, h2⟩ := depB_spec ho' hj
      exact I.phi j oj d hoj (getD_of_false (by rw [← h1]; exact hwait e he h2)) hd
    have hset : ∀ j, j ≠ i → (listed.setIfInBounds i true).getD j true = listed.getD j true := fun j hj => getD_set_ne true (Ne.symm hj)
    have hseti : (listed.setIfInBounds i true).getD i true = true := by simp [Array.getD_eq_getD_getElem?, hls]
    have hclosed : ∀ j oj, ol[j]? = some oj → (listed.setIfInBounds i true).getD j true = true → ∀ e ∈ oj.after, Region.binds .any e = true → (listed.setIfInBounds i true).getD e.on false = true := by
      intro j oj hoj hlj e he hb
      refine getD_set_true ?_
      by_cases hji : j = i
      · subst hji
        rw [ho'] at hoj; cases hoj
        exact hwait e he hb
      · rw [hset j hji] at hlj
        exact I.closed j oj hoj hlj e he hb
    have hne : ∀ j oj d, ol[j]? = some oj → j ≠ i → o.dst = some d → oj.dst ≠ some d := by
      intro j oj d hoj hji hd hd'
      have hj : j < ol.length := (List.getElem?_eq_some_iff.1 hoj).1
      have h1 := List.all_eq_true.1 (List.all_eq_true.1 hdst i (by simp [hlt])) j (by simp [hj])
      simp only [ho', hoj, Bool.or_eq_true, beq_iff_eq, bne_iff_ne, ne_eq] at h1
      rcases h1 with h1 | h1 | h1
      · exact hji h1.symm
      · exact h1 (by rw [hd, hd'])
      · rw [hd] at h1; cases h1
    -- what is left of the frame, behind a value in slot d
    have hframe : ∀ d v w', o.dst = some d → R w w' → Φ i v w' → 
        (∀ t, (∀ j oj, ol[j]? = some oj → (listed.setIfInBounds i true).getD j true = true → oj.dst ≠ some t) → (putsL a [(d, v)]).tmps.getD t undef = a0.tmps.getD t undef) ∧
        (∀ j oj d', ol[j]? = some oj → (listed.setIfInBounds i true).getD j true = true → oj.dst = some d' → Φ j ((putsL a [(d, v)]).tmps.getD d' undef) w') := by
      intro d v w' hd hR hv
      have hdN : d < a.tmps.size := by
        have h1 := List.all_eq_true.1 hdn o (List.mem_of_getElem? ho')
        simp only [hd, Nat.blt_eq] at h1
        rw [I.size]; exact h1
      refine ⟨fun t ht => ?_, fun j oj d' hoj hlj hd' => ?_⟩
      · have hdt : d ≠ t := fun e => ht i o ho' hseti (by rw [hd, e])
        rw [get_put_ne hdt]
        refine I.base t fun j oj hoj hlj => ?_
        by_cases hji : j = i
        · subst hji; rw [hun] at hlj; cases hlj
        · exact ht j oj hoj (by rw [hset j hji]; exact hlj)
      · by_cases hji : j = i
        · subst hji
          rw [ho'] at hoj; cases hoj
          rw [hd] at hd'; cases hd'
          rw [get_put_eq hdN]
          exact hv
        · rw [hset j hji] at hlj
          have : d ≠ d' := fun e => hne j oj d hoj hji hd (by rw [hd', e])
          rw [get_put_ne this]
          exact hΦ j _ w w' hR (I.phi j oj d' hoj hlj hd')
    by_cases hin : ch.has i = true
    · have hmem : i ∈ ch.ops := by simpa [Chain.has] using hin
      obtain ⟨c0, hc0, hci⟩ := List.getElem_of_mem hmem
      have hci' : ch.ops[c0]? = some i := by simp [hc0, hci]
      have hcc : c0 = c := by
        have h1 : ¬ c0 < c := fun h => by
          have := (I.chain c0 i hci').2 h
          rw [hun] at this; cases this
        rcases Nat.lt_or_ge c c0 with h2 | h2
        · exfalso
          have h3 := List.all_eq_true.1 hc1 c0 (by simp [hc0])
          have hz : (c0 == 0) = false := by simp; omega
          have hp : ch.ops.getD (c0 - 1) 0 = ch.ops[c0 - 1] := by simp [List.getD_eq_getElem?_getD, show c0 - 1 < ch.ops.length by omega]
          have hq : ch.ops.getD c0 0 = i := by simp [List.getD_eq_getElem?_getD, hc0, hci]
          rw [hz, hp, hq, Bool.false_or] at h3
          obtain ⟨e, he, h4, h5⟩ := depB_spec ho' h3
          have h6 := getD_of_false (hwait e he h5)
          rw [h4] at h6
          have := (I.chain (c0 - 1) ch.ops[c0 - 1] (by simp [show c0 - 1 < ch.ops.length by omega])).1 h6
          omega
        · omega
      subst hcc
      refine wp_one (by simpa using ho') (obC c0 i o hci' ho' a w I.size I.rel hbase hdep I.chainC) fun a' w' h => ?_
      obtain ⟨h1, h2, h3⟩ := h
      have hchain : ∀ m i', ch.ops[m]? = some i' → ((listed.setIfInBounds i true).getD i' true = true ↔ m < c0 + 1) := by
        intro m i' hm
        by_cases hii : i' = i
        · subst hii
          have : m = c0 := by
            have hnd : ch.ops.Nodup := of_decide_eq_true hc4
            have hmlt : m < ch.ops.length := (List.getElem?_eq_some_iff.1 hm).1
            exact (List.getElem?_inj hmlt hnd).1 (by rw [hm, hci'])
          exact ⟨fun _ => by omega, fun _ => hseti⟩
        · rw [hset i' hii, I.chain m i' hm]
          refine ⟨fun h => by omega, fun h => ?_⟩
          rcases Nat.lt_or_ge m c0 with h' | h'
          · exact h'
          · have : m = c0 := by omega
            subst this
            rw [hci'] at hm; exact absurd (Option.some.inj hm).symm hii
      refine ih _ (c0 + 1) a' w' ?_ hcnt'
      rcases h1 with ⟨hd, rfl⟩ | ⟨d, v, hd, rfl, hv⟩
      · refine ⟨I.size, I.defers, fun t ht => ?_, fun j oj d' hoj hlj hd' => ?_, hclosed, by simp [I.lsize], by omega, hchain, h2, hRt _ _ _ I.rel h3⟩
        · refine I.base t fun j oj hoj hlj => ?_
          by_cases hji : j = i
          · subst hji; rw [hun] at hlj; cases hlj
          · exact ht j oj hoj (by rw [hset j hji]; exact hlj)
        · by_cases hji : j = i
          · subst hji
            rw [ho'] at hoj; cases hoj
            rw [hd] at hd'; cases hd'
          · rw [hset j hji] at hlj
            exact hΦ j _ w w' h3 (I.phi j oj d' hoj hlj hd')
      · obtain ⟨f1, f2⟩ := hframe d v w' hd h3 hv
        exact ⟨by rw [putsL_size, I.size], by rw [putsL_defers, I.defers], f1, f2, hclosed, by simp [I.lsize], by omega, hchain, h2, hRt _ _ _ I.rel h3⟩
    · have hin' : ch.has i = false := by simpa using hin
      have hck : ∀ m k, ch.ops[m]? = some k → depB ol k i = true → c ≤ m := by
        intro m k hm hdk
        rcases Nat.lt_or_ge m c with hlt2 | hge
        · exfalso
          have h1 := (I.chain m k hm).2 hlt2
          cases hok : ol[k]? with
          | none => simp [depB, hok] at hdk
          | some ok =>
            obtain ⟨e, he, h4, h5⟩ := depB_spec hok hdk
            have h6 := getD_of_false (I.closed k ok hok h1 e he h5)
            rw [h4, hun] at h6; cases h6
        · exact hge
      refine wp_one (by simpa using ho') (obN i o ho' hin' a w c I.size I.rel I.cle hck I.chainC hbase hdep) fun a' w' h => ?_
      obtain ⟨⟨d, v, hd, rfl, hv⟩, hg⟩ := h
      obtain ⟨f1, f2⟩ := hframe d v w' hd (hR0 _ _ hg) hv
      refine ih _ c _ w' ⟨by rw [putsL_size, I.size], by rw [putsL_defers, I.defers], f1, f2, hclosed, by simp [I.lsize], I.cle, ?_, ?_, hRt _ _ _ I.rel (hR0 _ _ hg)⟩ hcnt'
      · intro m i' hm
        have hii : i' ≠ i := by
          rintro rfl
          have : ch.has i' = true := by simpa [Chain.has] using List.mem_of_getElem? hm
          rw [hin'] at this; cases this
        rw [hset i' hii]
        exact I.chain m i' hm
      · have hsl : d ≠ ch.slot c := by
          intro he
          have h1 := List.all_eq_true.1 hc2 i (by simp [hlt])
          rw [hin', Bool.false_or] at h1
          simp only [ho'] at h1
          have h2 := List.all_eq_true.1 h1 c (by simp; have := I.cle; omega)
          simp only [hd, he, bne_self_eq_false, Bool.false_or, Bool.and_eq_true, Nat.blt_eq] at h2
          obtain ⟨e, he', h4, h5⟩ := depB_spec ho' h2.2
          have h6 := getD_of_false (hwait e he' h5)
          have hq : ch.ops.getD c 0 = ch.ops[c] := by simp [List.getD_eq_getElem?_getD, h2.1]
          rw [h4, hq] at h6
          have := (I.chain c ch.ops[c] (by simp [h2.1])).1 h6
          omega
        rw [get_put_ne hsl]
        exact hC c _ w w' hg I.chainC

/-- A region whose order is open; what is not of the chain is told how far the chain has come. -/
theorem reg_mid0 {id : Nat} (hm : P.follows .mixedOrders = true) (hlex : lexB' ol = true) (hdn : dstNB ol N = true) (hdst : dstsB ol = true) (hch : ch.okB ol = true)
    (hRr : ∀ w, R w w) (hRt : ∀ w1 w2 w3, R w1 w2 → R w2 w3 → R w1 w3) (hR0 : ∀ w1 w2, w1.grownBy w2 none → R w1 w2)
    (hΦ : ∀ j u w1 w2, R w1 w2 → Φ j u w1 → Φ j u w2) (hC : ∀ c u w1 w2, w1.grownBy w2 none → C c u w1 → C c u w2)
    {l : List (Nat × Value)} {w : World} (hN : a0.tmps.size = N) (hC0 : C 0 ((putsL a0 l).tmps.getD (ch.slot 0) undef) w)
    (obN : ∀ i o, ol[i]? = some o → ch.has i = false → ObM P ol Φ C ch (putsL a0 l) N w R i o) (obC : ∀ c i o, ch.ops[c]? = some i → ol[i]? = some o → ObC P ol Φ C ch (putsL a0 l) N w R c i o)
    (fin : ∀ a' w', a'.tmps.size = N → a'.defers = a0.defers → (∀ t, (ol.all fun o => o.dst != some t) = true → a'.tmps.getD t undef = (putsL a0 l).tmps.getD t undef) →
      (∀ j oj d, ol[j]? = some oj → oj.dst = some d → Φ j (a'.tmps.getD d undef) w') → C ch.ops.length (a'.tmps.getD (ch.slot ch.ops.length) undef) w' → R w w' → Q .normal (putsL a' []) w') :
    (Code.region id ol.toArray true).wp P Q (putsL a0 l) w := by
  refine wp_region_any hm ?_
  have hd : w.grownBy { w with drawn := w.drawn + 1 } none := ⟨rfl, rfl, rfl, Nat.le_refl _, fun _ _ _ => rfl⟩
  have I : RInv ol Φ C ch (putsL a0 l) N w R (Array.replicate ol.length false) 0 (putsL a0 l) { w with drawn := w.drawn + 1 } := by
    refine ⟨slN hN, rfl, fun _ _ => rfl, fun j o d hj hl => ?_, fun j o hj hl => ?_, by simp, Nat.zero_le _, fun m i hm => ?_, hC _ _ _ _ hd hC0, hR0 _ _ hd⟩
    · have : j < ol.length := (List.getElem?_eq_some_iff.1 hj).1
      simp [Array.getD_eq_getD_getElem?, this] at hl
    · have : j < ol.length := (List.getElem?_eq_some_iff.1 hj).1
      simp [Array.getD_eq_getD_getElem?, this] at hl
    · have h3 : i < ol.length := by
        have hch' := hch
        simp only [Chain.okB, Bool.and_eq_true] at hch'
        have := List.all_eq_true.1 hch'.1.2 i (List.mem_of_getElem? hm)
        simpa [Nat.blt_eq] using this
      simp [Array.getD_eq_getD_getElem?, h3]
  have := region_mid_steps (P := P) (Q := Q) hlex hdn hdst hch w hRt hR0 hΦ hC obN obC (fun a' w' J => fin a' w' J.size (by rw [J.defers, putsL_defers]) (fun t ht => J.base t fun j o hj _ hd => by
      have := List.all_eq_true.1 ht o (List.mem_of_getElem? hj)
      simp [hd] at this) (fun j oj d hj hd => J.phi j oj d hj (by
        have : j < ol.length := (List.getElem?_eq_some_iff.1 hj).1
        simp [Array.getD_eq_getD_getElem?, this]) hd) J.chainC J.rel) ol.length (Array.replicate ol.length false) 0 _ _ I (Nat.le_trans (List.countP_le_length) (by simp))
  simpa using this
end
section
variable {P : Program} {ol : List Oper} {Q : Exit → Act → World → Prop} {Φ : Nat → Value → World → Prop} {a0 : Act} {N : Nat} {base e sz n : Nat} {v : Value}
/-- What an operation that writes nothing must show: the list is one's own, with what it holds behind c stores. -/
def ObR (P : Program) (ol : List Oper) (Φ : Nat → Value → World → Prop) (CS : List (List Value)) (ops : List Nat) (base e sz n : Nat) (v : Value) (a0 : Act) (N : Nat) (w0 : World) (i : Nat) (o : Oper) : Prop :=
  ∀ (a : Act) (w : World) (c : Nat), a.tmps.size = N → w0.grownBy w v.ownBlock → (∀ m k, ops[m]? = some k → depB ol k i = true → c ≤ m) → Own w base e sz v n (CS.getD c []) →
    (∀ t, safeB ol i t = true → a.tmps.getD t undef = a0.tmps.getD t undef) → (∀ j oj d, depB ol i j = true → ol[j]? = some oj → oj.dst = some d → Φ j (a.tmps.getD d undef) w) →
    wpList P ol.toArray (fun e a' w' => e = .normal ∧ (∃ d v, o.dst = some d ∧ a' = putsL a [(d, v)] ∧ Φ i v w') ∧ w.grownBy w' none) [o] (putsL a []) w
/-- What a store must show. -/
def ObW (P : Program) (ol : List Oper) (Φ : Nat → Value → World → Prop) (CS : List (List Value)) (base e sz n : Nat) (v : Value) (a0 : Act) (N : Nat) (w0 : World) (c i : Nat) (o : Oper) : Prop :=
  ∀ (a : Act) (w : World), a.tmps.size = N → w0.grownBy w v.ownBlock → (∀ t, safeB ol i t = true → a.tmps.getD t undef = a0.tmps.getD t undef) → (∀ j oj d, depB ol i j = true → ol[j]? = some oj → oj.dst = some d → Φ j (a.tmps.getD d undef) w) → Own w base e sz v n (CS.getD c []) →
    wpList P ol.toArray (fun ex a' w' => ex = .normal ∧ ((o.dst = none ∧ a' = a) ∨ ∃ d v, o.dst = some d ∧ a' = putsL a [(d, v)] ∧ Φ i v w') ∧ Own w' base e sz v n (CS.getD (c + 1) []) ∧ w.grownBy w' v.ownBlock) [o] (putsL a []) w
theorem reg_mid {id : Nat} (ops : List Nat) (CS : List (List Value)) (hm : P.follows .mixedOrders = true) (hlex : lexB' ol = true) (hdn : dstNB ol N = true) (hdst : dstsB ol = true) (hch : (⟨ops, fun _ => N⟩ : Chain).okB ol = true)
    {l : List (Nat × Value)} {w : World} (hN : a0.tmps.size = N) (O : Own w base e sz v n (CS.getD 0 []))
    (hΦ : ∀ j u w1 w2, w1.grownBy w2 v.ownBlock → Φ j u w1 → Φ j u w2)
    (obR : ∀ i o, ol[i]? = some o → ops.contains i = false → ObR P ol Φ CS ops base e sz n v (putsL a0 l) N w i o) (obW : ∀ c i o, ops[c]? = some i → ol[i]? = some o → ObW P ol Φ CS base e sz n v (putsL a0 l) N w c i o)
    (fin : ∀ a' w', a'.tmps.size = N → a'.defers = a0.defers → (∀ t, (ol.all fun o => o.dst != some t) = true → a'.tmps.getD t undef = (putsL a0 l).tmps.getD t undef) →
      (∀ j oj d, ol[j]? = some oj → oj.dst = some d → Φ j (a'.tmps.getD d undef) w') → Own w' base e sz v n (CS.getD ops.length []) → w.grownBy w' v.ownBlock → Q .normal (putsL a' []) w') :
    (Code.region id ol.toArray true).wp P Q (putsL a0 l) w :=
  reg_mid0 (C := fun c _ w => Own w base e sz v n (CS.getD c [])) (ch := ⟨ops, fun _ => N⟩) (R := fun w1 w2 => w1.grownBy w2 v.ownBlock) hm hlex hdn hdst hch (fun w => grown_refl w _) (fun _ _ _ => grown_trans) (fun _ _ h => grown_any h _) hΦ
    (fun c u w1 w2 E h => h.keep0 E) hN O (fun i o hi hh => fun a w c h1 h2 _ h4 h5 h6 h7 => obR i o hi hh a w c h1 h2 h4 h5 h6 h7)
    (fun c i o hc hi => fun a w h1 h2 h3 h4 h5 => obW c i o hc hi a w h1 h2 h3 h4 h5)
    (fun a' w' h1 h2 h3 h4 h5 h6 => fin a' w' h1 h2 h3 h4 h5 h6)
end
section
variable {P : Program} {ol : List Oper} {Φ : Nat → Value → World → Prop} {CS : List (List Value)} {ops : List Nat} {a0 : Act} {N : Nat} {w0 : World} {base e sz n : Nat} {v : Value}
theorem obR_end {i d : Nat} {u : Value} {o : Oper} {op : Array Oper} {a : Act} {w w' : World} (hd : o.dst = some d) (hv : Φ i u w') (hg : w.grownBy w' none) :
    wpList P op (fun e a' w' => e = .normal ∧ (∃ d v, o.dst = some d ∧ a' = putsL a [(d, v)] ∧ Φ i v w') ∧ w.grownBy w' none) [] (putsL a [(d, u)]) w' := ⟨rfl, ⟨d, u, hd, rfl, hv⟩, hg⟩
theorem obW_end {c i : Nat} {o : Oper} {op : Array Oper} {a : Act} {w w' : World} (hd : o.dst = none) (hO : Own w' base e sz v n (CS.getD (c + 1) [])) (hg : w.grownBy w' v.ownBlock) :
    wpList P op (fun ex a' w' => ex = .normal ∧ ((o.dst = none ∧ a' = a) ∨ ∃ d v, o.dst = some d ∧ a' = putsL a [(d, v)] ∧ Φ i v w') ∧ Own w' base e sz v n (CS.getD (c + 1) []) ∧ w.grownBy w' v.ownBlock) [] (putsL a []) w' := ⟨rfl, .inl ⟨hd, rfl⟩, hO, hg⟩
def ObRs (P : Program) (ol : List Oper) (Φ : Nat → Value → World → Prop) (CS : List (List Value)) (ops : List Nat) (base e sz n : Nat) (v : Value) (a0 : Act) (N : Nat) (w0 : World) : Nat → List Oper → Prop
  | _, [] => True
  | i, o :: r => (ops.contains i = false → ObR P ol Φ CS ops base e sz n v a0 N w0 i o) ∧ ObRs P ol Φ CS ops base e sz n v a0 N w0 (i + 1) r
theorem ObRs.nil {i : Nat} : ObRs P ol Φ CS ops base e sz n v a0 N w0 i [] := trivial
theorem ObRs.cons {i : Nat} {o : Oper} {r : List Oper} (h : ObR P ol Φ CS ops base e sz n v a0 N w0 i o) (h' : ObRs P ol Φ CS ops base e sz n v a0 N w0 (i + 1) r) : ObRs P ol Φ CS ops base e sz n v a0 N w0 i (o :: r) := ⟨fun _ => h, h'⟩
theorem ObRs.pass {i : Nat} {o : Oper} {r : List Oper} (hh : ops.contains i = true) (h' : ObRs P ol Φ CS ops base e sz n v a0 N w0 (i + 1) r) : ObRs P ol Φ CS ops base e sz n v a0 N w0 i (o :: r) := ⟨fun h => absurd (hh.symm.trans h) (by decide), h'⟩
theorem ObRs.getx : ∀ {l : List Oper} {i : Nat}, ObRs P ol Φ CS ops base e sz n v a0 N w0 i l → ∀ j o, l[j]? = some o → ops.contains (i + j) = false → ObR P ol Φ CS ops base e sz n v a0 N w0 (i + j) o
  | [], _, _, j, o, h, _ => by simp at h
  | o' :: r, i, h, 0, o, hj, hs => by simp at hj; subst hj; exact h.1 hs
  | o' :: r, i, h, j + 1, o, hj, hs => by
    have := ObRs.getx h.2 j o (by simpa using hj) (by rwa [show i + 1 + j = i + (j + 1) by omega])
    rwa [show i + 1 + j = i + (j + 1) by omega] at this
theorem ObRs.get {l : List Oper} (h : ObRs P ol Φ CS ops base e sz n v a0 N w0 0 l) : ∀ j o, l[j]? = some o → ops.contains j = false → ObR P ol Φ CS ops base e sz n v a0 N w0 j o := fun j o hj hs => by
  have := ObRs.getx h j o hj (by rwa [Nat.zero_add])
  rwa [Nat.zero_add] at this
def ObWs (P : Program) (ol : List Oper) (Φ : Nat → Value → World → Prop) (CS : List (List Value)) (base e sz n : Nat) (v : Value) (a0 : Act) (N : Nat) (w0 : World) : Nat → List Nat → Prop
  | _, [] => True
  | c, i :: r => (∀ o, ol[i]? = some o → ObW P ol Φ CS base e sz n v a0 N w0 c i o) ∧ ObWs P ol Φ CS base e sz n v a0 N w0 (c + 1) r
theorem ObWs.nil {c : Nat} : ObWs P ol Φ CS base e sz n v a0 N w0 c [] := trivial
theorem ObWs.cons {c i : Nat} {r : List Nat} (h : ∀ o, ol[i]? = some o → ObW P ol Φ CS base e sz n v a0 N w0 c i o) (h' : ObWs P ol Φ CS base e sz n v a0 N w0 (c + 1) r) : ObWs P ol Φ CS base e sz n v a0 N w0 c (i :: r) := ⟨h, h'⟩
theorem ObWs.getx : ∀ {l : List Nat} {c : Nat}, ObWs P ol Φ CS base e sz n v a0 N w0 c l → ∀ m i o, l[m]? = some i → ol[i]? = some o → ObW P ol Φ CS base e sz n v a0 N w0 (c + m) i o
  | [], _, _, j, i, o, h, _ => by simp at h
  | o' :: r, c, h, 0, i, o, hj, ho => by simp at hj; subst hj; exact h.1 o ho
  | o' :: r, c, h, j + 1, i, o, hj, ho => by
    have := ObWs.getx h.2 j i o (by simpa using hj) ho
    rwa [show c + 1 + j = c + (j + 1) by omega] at this
theorem ObWs.get {l : List Nat} (h : ObWs P ol Φ CS base e sz n v a0 N w0 0 l) : ∀ m i o, l[m]? = some i → ol[i]? = some o → ObW P ol Φ CS base e sz n v a0 N w0 m i o := fun m i o hj ho => by
  have := ObWs.getx h m i o hj ho
  rwa [Nat.zero_add] at this
end
/-- What is told of an operation's value does not hang on the world. -/
def StW (row : Option Nat) : List (Value → World → Prop) → Prop := StL row
theorem StL.at {row : Option Nat} {v : Value} {q : Nat} {L : List (Value → World → Prop)} (h' : StL row L) : StL row ((fun u _ => ∃ b o, u = ptr b o ∧ AtV v q b o) :: L) := ⟨fun _ _ _ _ h => h, h'⟩
end Go.Gx

/- Small laws for walks, the seventeenth part: the tail of one's own list, looked at while the list is written; clear; a list that is asked whether it is nil. -/
namespace Go.Gx
open Go.RowKit
section
variable {P : Program} {Q : Exit → Act → World → Prop} {a : Act} {w w' : World} {l : List (Nat × Value)} {ops : Array Oper} {rest : List Oper}
variable {d ty t : Nat} {p : String} {af : Array Edge} {x y : Operand} {v : Value} {n k L B base e by_ : Nat} {cs : List Value} {zv : Value}
/-- A list from its element k on. -/
def tailV (v : Value) (k : Nat) : Value := match v with | .slice (some ⟨b, off, none⟩) n c => .slice (some ⟨b, off + k, none⟩) (n - k) (c - k) | x => x
theorem RdC.tail (R : RdC w L B 1 v n cs) (h0 : 0 < n) (hk : k ≤ n) : RdC w L B 1 (tailV v k) (n - k) (cs.drop k) := by
  obtain ⟨hl, ad, c, rfl, hnc, hcm, hr⟩ := R
  rcases hr with rfl | ⟨b, off, rfl, h1, h2, hc⟩
  · simp at hl; omega
  · exact ⟨by simp; omega, _, _, rfl, by omega, by omega, .inr ⟨b, off + k, rfl, h1, h2, fun j u hj => by
      have := hc (k + j) u (by simpa using hj)
      rw [show off + k + j = off + (k + j) by omega]; exact this⟩⟩
theorem op_slice_tail {q : Operand} {kk : IntKind} (T : SlT P t e zv 1 by_) (hx : (putsL a l).eval x = v) (R : RdC w L B 1 v n cs) (h0 : 0 < n) (hq : (putsL a l).eval q = .int kk (k : Int)) (hk : k < n)
    (h : wpList P ops Q rest (putsL a ((d, tailV v k) :: l)) w) :
    wpList P ops Q (⟨some d, .slice t x (some q) none none, ty, p, af, none⟩ :: rest) (putsL a l) w := by
  obtain ⟨inf, hi, hz0, hz1, hz2⟩ := info_parts T.info
  obtain ⟨hl, ad, c, rfl, hnc, hcm, hr⟩ := R
  rcases hr with rfl | ⟨b, off, rfl, h1, h2, hc⟩
  · simp at hl; omega
  · have e1 : ¬ ((n : Int) < (k : Int)) := by omega
    have e2 : ¬ ((c : Int) < (n : Int)) := by omega
    have e3 : ¬ n < k := by omega
    have e4 : ¬ c < n := by omega
    refine op_gen (v := .slice (some ⟨b, off + k, none⟩) (n - k) (c - k)) rfl ?_ h
    simp [execOp, hx, hq, Instr.sliceAt, Instr.slice, run_underlying T.und, Instr.sliceBounds, Instr.sliceBound, asIntOf, sizeOf, typeInfo, hi, Addr.add_lit, hz1, Nat.le_of_lt hk, hnc]
    omega
theorem own_setCells {q g off n' cap : Nat} {vs : List Value} (O : Own w base e 1 (.slice (some ⟨g, off, none⟩) n cap) n cs) (hq : q + vs.length ≤ n) (h1 : vs.all Value.oneCell' = true) :
    Own (w.setCells g (off + q) vs) base e 1 (.slice (some ⟨g, off, none⟩) n cap) n (cs.take q ++ vs ++ cs.drop (q + vs.length)) ∧ (∀ j, j < vs.length → (w.cell? ⟨g, off + q + j, none⟩).isSome = true) ∧ (∀ j, j < vs.length → w.frozen? ⟨g, off + q + j, none⟩ = false) := by
  obtain ⟨hl, ⟨hv, _⟩ | ⟨g', off', cap', cur, fr, hv, hb, hg, hf, hnc, hcm, hfit, htk⟩⟩ := O
  · cases hv
  · injection hv with e1 e2 e3; injection e1 with e1; injection e1 with e1 e4; subst e1; subst e3; subst e4
    rw [Nat.mul_one] at hl hfit
    have hsz : off + q + vs.length ≤ cur.size := by omega
    refine ⟨⟨by simp; omega, .inr ⟨g, off, cap, setsAt cur (off + q) vs, fr, rfl, hb, heap_setCells g e fr vs (off + q) w cur hg, by rw [size_setsAt]; exact hf, hnc, hcm, by rw [size_setsAt]; omega, ?_⟩⟩, fun j hj => by simp [World.cell?, hg]; omega, fun j hj => by
      have := hf (off + q + j) (by omega)
      obtain ⟨lo, hi⟩ := fr
      simp only [World.frozen?, hg]
      simpa [Bool.and_eq_false_iff] using this⟩
    apply List.ext_getElem?
    intro j
    have hcs : ∀ j, cs[j]? = if j < n then cur[off + j]? else none := by
      intro j
      rw [← htk, List.getElem?_take, Nat.mul_one]
      split
      · rw [List.getElem?_drop]; simp
      · rfl
    rw [List.getElem?_take, List.getElem?_drop]
    simp only [Array.getElem?_toList, Nat.mul_one]
    rw [get_setsAt vs (off + q) cur (off + j) hsz]
    simp only [List.getElem?_append, List.length_append, List.length_take, List.getElem?_take, List.getElem?_drop, hcs]
    by_cases h1 : j < n
    · by_cases h2 : j < q
      · rw [if_pos h1, if_neg (by omega), if_pos (by omega), if_pos (by omega), if_pos h2, if_pos h1]
      · by_cases h3 : j < q + vs.length
        · rw [if_pos h1, if_pos (by omega), if_pos (by omega), if_neg (by omega), show off + j - (off + q) = j - min q cs.length by omega]
        · rw [if_pos h1, if_neg (by omega), if_neg (by omega), show q + vs.length + (j - (min q cs.length + vs.length)) = j by omega, if_pos h1]
    · rw [if_neg h1, if_neg (by omega), show q + vs.length + (j - (min q cs.length + vs.length)) = j by omega, if_neg h1]
theorem op_clear_tail {sT : Nat} (T : SlT P sT e zv 1 by_) (hz : zv.cells = #[zv]) (hz1 : zv.oneCell' = true) (hx : (putsL a l).eval x = tailV v k) (O : Own w base e 1 v n cs) (hk : k < n)
    (h : ∀ w', Own w' base e 1 v n (cs.take k ++ List.replicate (n - k) zv) → w.grownBy w' v.ownBlock → wpList P ops Q rest (putsL a l) w') :
    wpList P ops Q (⟨none, .call ⟨.builtin .clear, #[x], #[sT]⟩, ty, p, af, none⟩ :: rest) (putsL a l) w := by
  obtain ⟨inf, hi, hz0, hzz, hz2⟩ := info_parts T.info
  have hv : ∀ w, (zeroValue e).run P w = .ok zv w := fun w => by simp [zeroValue, typeInfo, hi, hz0]
  have O' := O
  obtain ⟨hl, ⟨rfl, rfl⟩ | ⟨g, off, cap, cur, fr, rfl, hb, hg, hf, hnc, hcm, hfit, htk⟩⟩ := O
  · omega
  · have hone : (List.replicate (n - k) zv).all Value.oneCell' = true := by simp [hz1]
    obtain ⟨g1, g2, g3⟩ := own_setCells (n' := 0) O' (q := k) (vs := List.replicate (n - k) zv) (by simp; omega) hone
    have hd : cs.drop (k + (List.replicate (n - k) zv).length) = [] := by rw [List.drop_eq_nil_of_le]; simp; omega
    rw [hd, List.append_nil] at g1
    have hrun := Lib.run_clear_slice (P := P) w sT e ty zv T.und hv hz hz1 g (off + k) (n - k) (cap - k) (by omega) (fun j hj => g2 j (by simpa using hj)) (fun j hj => g3 j (by simpa using hj))
    refine op_gen (v := .tuple #[]) (w' := w.setCells g (off + k) (List.replicate (n - k) zv)) rfl ?_ (h _ g1 (grown_setCells w g _ _))
    have hx' : (putsL a l).eval x = .slice (some ⟨g, off + k, none⟩) (n - k) (cap - k) := hx
    simp only [execOp, hx', resolve, invoke, builtin, Sem.run_bind, Sem.run_pure, Result.andThen_ok, List.map_toArray, List.map_cons, List.map_nil, hrun]
theorem RdC.cells {sz : Nat} (R : RdC w L B sz v n cs) : v.cells.toList = [v] := by
  obtain ⟨hl, ad, c, rfl, hnc, hcm, hr⟩ := R
  rfl
/-- one's own list that stood in an earlier world is read below that world's end -/
theorem Own.rdB {w0 : World} {sz base0 e0 sz0 n0 : Nat} {cs0 : List Value} (O : Own w base e sz v n cs) (O0 : Own w0 base0 e0 sz0 v n0 cs0) : RdC w base w0.heap.size sz v n cs := by
  obtain ⟨hl, ad, c, rfl, hnc, hcm, hr⟩ := O.rdw
  refine ⟨hl, ad, c, rfl, hnc, hcm, ?_⟩
  rcases hr with rfl | ⟨b, off, rfl, h1, h2, hc⟩
  · exact .inl rfl
  · exact .inr ⟨b, off, rfl, h1, (O0.lt b rfl).2, hc⟩
/-- whether a list is nil -/
theorem op_eql_nil {xt yt sz : Nat} (T : SlT P xt e zv sz by_) (hx : (putsL a l).eval x = v) (hy : (putsL a l).eval y = .slice none 0 0) (R : RdC w L B sz v n cs)
    (h1 : n = 0 → wpList P ops Q rest (putsL a ((d, .bool true) :: l)) w) (h2 : wpList P ops Q rest (putsL a ((d, .bool false) :: l)) w) :
    wpList P ops Q (⟨some d, .binOp .eql xt x y yt, ty, p, af, none⟩ :: rest) (putsL a l) w := by
  obtain ⟨hl, ad, c, rfl, hnc, hcm, hr⟩ := R
  have hrun : (execOp (putsL a l).eval (⟨some d, .binOp .eql xt x y yt, ty, p, af, none⟩ : Oper)).run P w = .ok (.value (.bool ad.isNone)) w := by
    have := Lib.run_eql_slice_nil (P := P) w xt e ad n c 0 0 T.und
    have hg : (eqGuard .eql xt x y (Value.slice ad n c) (Value.slice none 0 0)).run P w = .ok () w := by simp [eqGuard]
    simp only [execOp, hx, hy]
    simp [this, hg]
  cases ad with
  | none =>
    refine op_gen rfl hrun (h1 ?_)
    rcases hr with rfl | ⟨b, off, hv, _⟩
    · have hp := T.pos
      have hq : n * sz = 0 := by simpa using hl.symm
      rcases Nat.mul_eq_zero.1 hq with h | h
      · exact h
      · omega
    · cases hv
  | some ad => exact op_gen rfl hrun h2
/-- a function with what it holds -/
theorem op_mkfn {f : FuncId} {co : List Operand} {cv : List Value} (hm : argsEv (putsL a l).eval co cv) (h : wpList P ops Q rest (putsL a ((d, .func (.func f) #[] cv.toArray) :: l)) w) :
    wpList P ops Q (⟨some d, .makeFunc (.func f) #[] co.toArray, ty, p, af, none⟩ :: rest) (putsL a l) w := by
  refine op_gen rfl ?_ h
  have e : co.toArray.map (putsL a l).eval = cv.toArray := by rw [List.map_toArray, argsEv_map hm]
  simp [execOp, e, Instr.makeFunc]
end
end Go.Gx

/- Small laws for walks, the eighteenth part: append of zeros onto nothing, cuts of one's own lists. -/
namespace Go.Gx
open Go.RowKit
section
variable {P : Program} {Q : Exit → Act → World → Prop} {a : Act} {w w' : World} {l : List (Nat × Value)} {ops : Array Oper} {rest : List Oper}
variable {d ty t e : Nat} {p : String} {af : Array Edge} {x y : Operand} {v : Value} {k : IntKind} {n base sz by_ : Nat} {cs : List Value} {zv : Value}
theorem Ret.flip {f : FuncId} {args : Array Value} {A : Value → Prop} (h : Ret P f args w (fun v w' => A v ∧ w' = w)) : Ret P f args w (fun v w' => A v ∧ w = w') := h.mono fun _ _ h => ⟨h.1, h.2.symm⟩
theorem g_undef {o oj : Oper} {j dj dd : Nat} {b : Bool} (hg : o.guard = some (j, b)) (hj : ops[j]? = some oj) (hd : oj.dst = some dj) (hv : (putsL a l).eval (.tmp dj) = undef) (hdd : o.dst = some dd)
    (h : wpList P ops Q rest (putsL a ((dd, undef) :: l)) w) : wpList P ops Q (o :: rest) (putsL a l) w := by
  have hv' : (putsL a l).tmps.getD dj undef = undef := hv
  have hy : yielded ops (putsL a l).tmps j = none := by
    unfold yielded
    simp only [hj, Option.bind_some, hd]
    rw [Array.getD_eq_getD_getElem?] at hv'
    cases hq : (putsL a l).tmps[dj]? with
    | none => rfl
    | some v => rw [hq] at hv'; simp at hv'; subst hv'; rfl
  unfold wpList
  have h1 : Region.wanted o (yielded ops (putsL a l).tmps) = false := by
    simp [Region.wanted, hg, hy]
  simp only [h1, Bool.false_eq_true, if_false, hdd]
  exact h
theorem op_slice_nil {high : Operand} (T : SlT P t e zv sz by_) (hx : (putsL a l).eval x = .slice none 0 0) (hh : (putsL a l).eval high = .int k 0) (h : wpList P ops Q rest (putsL a ((d, .slice none 0 0) :: l)) w) :
    wpList P ops Q (⟨some d, .slice t x none (some high) none, ty, p, af, none⟩ :: rest) (putsL a l) w := by
  obtain ⟨inf, hi, hz0, hz1, hz2⟩ := info_parts T.info
  refine op_gen (v := .slice none 0 0) rfl ?_ h
  simp [execOp, hx, hh, Instr.sliceAt, Instr.slice, run_underlying T.und, Instr.sliceBounds, Instr.sliceBound, asIntOf, sizeOf, typeInfo, hi]
theorem op_append_zeros_nil {tn : Nat} {kn : IntKind} (T : SlT P t e zv sz by_) (htn : P.underlying tn = some (.int kn)) (hx : (putsL a l).eval x = .slice none 0 0) (hy : (putsL a l).eval y = .int k (n : Int)) (h0 : 0 < n) (h63 : (n : Int) ≤ 9223372036854775807) (h48 : n * by_ ≤ 281474976710656) (hbase : base ≤ w.heap.size)
    (h : ∀ v' w' cs, Own w' base e sz v' n cs → w.grownBy w' none → (∀ b, v'.ownBlock = some b → w.heap.size ≤ b) → wpList P ops Q rest (putsL a ((d, v') :: l)) w') :
    wpList P ops Q (⟨some d, .call ⟨.builtin .append, #[x, y], #[t, tn]⟩, ty, p, af, none⟩ :: rest) (putsL a l) w := by
  obtain ⟨i, hi, hz, hsize, hby⟩ := info_parts T.info
  subst hsize; subst hby
  have hpos := T.pos
  have hzs := T.zs
  have hr := Lib.run_append_nil_zeros (P := P) w t tn ty e i zv k kn T.und htn hi hz n h0 hpos h63 h48
  have hge := grownCap_ge w n 0 e
  have hcm : grownCap w n 0 e ≤ maxLen := grownCap_le_maxLen w n 0 e (by unfold maxLen; omega)
  refine op_gen (v := _) (w' := _) rfl (by simp only [execOp, hx, hy, resolve, invoke, builtin, Sem.run_bind, Sem.run_pure, Result.andThen_ok, List.map_toArray, List.map_cons, List.map_nil, hr]; rfl) (h _ _ (((Builtin.zeroCells zv.cells n ++ Builtin.zeroCells zv.cells (grownCap w n 0 e - n)).toList).take (n * i.size)) ?_ ?_ ?_)
  · refine ⟨?_, .inr ⟨w.heap.size, 0, _, _, (0, 0), rfl, hbase, heap_alloc_new w.drew _, by simp, hge, hcm, ?_, by simp⟩⟩
    · simp [size_zeroCells, hzs, Nat.le_add_right]
    · simp only [Array.size_append, size_zeroCells, hzs, ← Nat.add_mul, Nat.zero_add]
      exact Nat.le_of_eq (by congr 1; omega)
  · exact ⟨rfl, rfl, rfl, by simp, fun k hk _ => Below.heap_alloc w.drew _ k hk⟩
  · intro b hb
    simp [Value.ownBlock] at hb
    omega
theorem Own.cut (O : Own w base e sz v n cs) {m : Nat} (hm : m ≤ n) : ∃ v', (v = .slice none 0 0 ∧ v' = .slice none 0 0 ∨ ∃ g c, v = .slice (some g) n c ∧ v' = .slice (some g) m c) ∧ Own w base e sz v' m (cs.take (m * sz)) ∧ v'.ownBlock = v.ownBlock := by
  obtain ⟨hl, ⟨rfl, rfl⟩ | ⟨g, off, cap, cur, fr, rfl, hb, hg, hf, hnc, hcm, hfit, htk⟩⟩ := O
  · have : m = 0 := by omega
    subst this
    exact ⟨_, .inl ⟨rfl, rfl⟩, by simpa using Own.nil w base e sz, rfl⟩
  · have hle : m * sz ≤ n * sz := Nat.mul_le_mul_right _ hm
    exact ⟨_, .inr ⟨_, _, rfl, rfl⟩, ⟨by simp; omega, .inr ⟨g, off, cap, cur, fr, rfl, hb, hg, hf, by omega, hcm, hfit, by rw [← htk, List.take_take, Nat.min_eq_left hle]⟩⟩, rfl⟩
/-- one's own list, cut behind: it is one's own still -/
theorem op_slice_own_hi {high : Operand} {m : Nat} {r : Int} (T : SlT P t e zv sz by_) (hx : (putsL a l).eval x = v) (O : Own w base e sz v n cs) (hh : (putsL a l).eval high = .int k r) (hr : r = (m : Int)) (hm : m ≤ n)
    (h : ∀ v', Own w base e sz v' m (cs.take (m * sz)) → v'.ownBlock = v.ownBlock → wpList P ops Q rest (putsL a ((d, v') :: l)) w) :
    wpList P ops Q (⟨some d, .slice t x none (some high) none, ty, p, af, none⟩ :: rest) (putsL a l) w := by
  obtain ⟨inf, hi, hz0, hz1, hz2⟩ := info_parts T.info
  subst hr
  have O' := O
  obtain ⟨v', hv', O2, hob⟩ := O.cut hm
  obtain ⟨hl, ⟨rfl, rfl⟩ | ⟨g, off, cap, cur, fr, rfl, hb, hg, hf, hnc, hcm, hfit, htk⟩⟩ := O'
  · have h0 : m = 0 := by omega
    subst h0
    rcases hv' with ⟨_, rfl⟩ | ⟨g, c, hv, _⟩
    · refine op_gen (v := .slice none 0 0) rfl ?_ (h _ O2 hob)
      simp [execOp, hx, hh, Instr.sliceAt, Instr.slice, run_underlying T.und, Instr.sliceBounds, Instr.sliceBound, asIntOf, sizeOf, typeInfo, hi]
    · cases hv
  · rcases hv' with ⟨hv, _⟩ | ⟨g', c', hv, rfl⟩
    · cases hv
    · injection hv with e1 e2 e3; injection e1 with e1; subst e1; subst e3
      have hmc : m ≤ cap := by omega
      have hmc' : ¬ ((cap : Int) < (m : Int)) := by omega
      refine op_gen (v := .slice (some ⟨g, off, none⟩) m cap) rfl ?_ (h _ O2 hob)
      simp [execOp, hx, hh, Instr.sliceAt, Instr.slice, run_underlying T.und, Instr.sliceBounds, Instr.sliceBound, asIntOf, sizeOf, typeInfo, hi, Addr.add_lit, hmc]
end
end Go.Gx

/- Small laws for walks, the nineteenth part: regions of open order whose operations leave the world as it is, told in the text's order. -/
namespace Go.Gx
open Go.RowKit
/-- Operations that hand a value back, or halt. -/
def plainOp : Op → Bool
  | .move _ | .assign _ | .pick _ _ _ | .build _ _ | .load _ _ | .nilCheck _ | .binOp _ _ _ _ _ | .unOp _ _ _ | .convert _ _ _ | .slice _ _ _ _ _ | .fieldAddr _ _ _ | .field _ _ _ | .indexAddr _ _ _ | .index _ _ _ | .lookup _ _ _ _ | .makeFunc _ _ _ | .extract _ _ => true
  | .call ⟨.builtin .len, _, _⟩ | .call ⟨.builtin .cap, _, _⟩ | .call ⟨.builtin .min, _, _⟩ | .call ⟨.builtin .max, _, _⟩ => true
  | _ => false
def ValOrHalt (r : Result Next) : Prop := (∃ v w', r = .ok (.value v) w') ∨ ∃ x w', r = .halt x w'
theorem vh_bind {P : Program} {w : World} (s : Sem Value) : ValOrHalt ((do let v ← s; pure (Next.value v) : Sem Next).run P w) := by
  rw [Sem.run_bind]
  cases hs : s.run P w with
  | ok v w' => exact .inl ⟨v, w', by simp⟩
  | halt x w' => exact .inr ⟨x, w', by simp [Result.andThen]⟩
theorem vh_pure {P : Program} {w : World} (v : Value) : ValOrHalt ((pure (Next.value v) : Sem Next).run P w) := .inl ⟨v, w, by simp⟩
theorem vh_then {P : Program} {w : World} {α : Type} (s : Sem α) (f : α → Sem Next) (h : ∀ x w, ValOrHalt ((f x).run P w)) : ValOrHalt ((do let x ← s; f x : Sem Next).run P w) := by
  rw [Sem.run_bind]
  cases hs : s.run P w with
  | ok v w' => simpa using h v w'
  | halt x w' => exact .inr ⟨x, w', by simp [Result.andThen]⟩
theorem run_plain {P : Program} {ρ : Operand → Value} {w : World} {o : Oper} (h : plainOp o.op = true) : ValOrHalt ((execOp ρ o).run P w) := by
  obtain ⟨dst, op, ty, pos, af, g⟩ := o
  cases op <;> simp only [plainOp] at h <;> first | (cases h; done) | skip
  case move => exact vh_pure _
  case assign => exact vh_pure _
  case pick => exact vh_then _ _ fun _ _ => vh_pure _
  case nilCheck x =>
    simp only [execOp]
    split
    · exact .inr ⟨_, _, rfl⟩
    · exact .inr ⟨_, _, rfl⟩
    · exact .inr ⟨_, _, rfl⟩
    · split
      · exact .inr ⟨_, _, rfl⟩
      · refine vh_then _ _ fun _ _ => vh_then _ _ fun _ _ => ?_
        split
        · exact vh_then _ _ fun _ _ => vh_pure _
        · exact vh_pure _
      · exact vh_pure _
    · exact vh_pure _
  case call c =>
    obtain ⟨callee, ags, ts⟩ := c
    cases callee with
    | builtin b => cases b <;> simp only [plainOp] at h <;> first | (cases h; done) | exact vh_bind (Builtin.len_ ts ty (ags.map ρ)) | exact vh_bind (Builtin.cap_ ts ty (ags.map ρ)) | exact vh_bind (Builtin.min_ ts ty (ags.map ρ)) | exact vh_bind (Builtin.max_ ts ty (ags.map ρ))
    | value x => simp [plainOp] at h
    | invoke r n => simp [plainOp] at h
  all_goals exact vh_bind _
section
variable {P : Program} {Q : Exit → Act → World → Prop} {a : Act} {w w' : World} {l : List (Nat × Value)} {ops : Array Oper} {rest : List Oper} {K : Act → Prop}
variable {d ty xt yt t e : Nat} {p : String} {af : Array Edge} {x y z : Operand} {v u zv : Value} {k : IntKind} {m n r : Int}
theorem st_nil (h : K a) : wpStill P ops w K [] a := h
/-- one operation that leaves the world as it is: whatever its law says of what it puts -/
theorem st_any {S : Act → Prop} {o : Oper} {A : Act} (hp : plainOp o.op = true) (H : ∀ Q : Exit → Act → World → Prop, (∀ a', S a' → Q .normal a' w) → wpList P ops Q [o] A w) (h : ∀ a', S a' → wpStill P ops w K rest a') : wpStill P ops w K (o :: rest) A := by
  have G := H (fun e a' w' => e = .normal ∧ w' = w ∧ S a') fun a' hs => ⟨rfl, rfl, hs⟩
  unfold wpList at G
  unfold wpStill
  by_cases hw : Region.wanted o (yielded ops A.tmps) = true
  · rw [if_pos hw] at G ⊢
    rcases G with G | ⟨_, a1, w1, h1, _⟩
    · unfold Oper.wp at G
      unfold Oper.still
      rcases run_plain (P := P) (ρ := A.eval) (w := w) hp with ⟨v, w', hr⟩ | ⟨x, w', hr⟩
      · rw [hr] at G ⊢
        simp only [Oper.upon] at G
        obtain ⟨_, rfl, hs⟩ := (show Exit.normal = Exit.normal ∧ w' = w ∧ S (A.put o.dst v) from G)
        exact ⟨rfl, h _ hs⟩
      · rw [hr] at G
        exfalso
        cases x <;> simp only [Oper.upon] at G
        exact absurd G.1 (by simp)
    · cases h1
  · rw [if_neg hw] at G ⊢
    exact h _ (show Exit.normal = Exit.normal ∧ w = w ∧ S (A.put o.dst undef) from G).2.2
theorem st_step {o : Oper} {A B : Act} (hp : plainOp o.op = true) (H : ∀ Q : Exit → Act → World → Prop, wpList P ops Q [] B w → wpList P ops Q [o] A w) (h : wpStill P ops w K rest B) : wpStill P ops w K (o :: rest) A :=
  st_any (S := fun a' => a' = B) hp (fun Q hq => H Q (hq B rfl)) fun _ e => by subst e; exact h
theorem st_fork {c : Prop} {o : Oper} {A B1 B2 : Act} (hp : plainOp o.op = true) (H : ∀ Q : Exit → Act → World → Prop, (c → wpList P ops Q [] B1 w) → (¬ c → wpList P ops Q [] B2 w) → wpList P ops Q [o] A w)
    (h1 : c → wpStill P ops w K rest B1) (h2 : ¬ c → wpStill P ops w K rest B2) : wpStill P ops w K (o :: rest) A := by
  by_cases hc : c
  · exact st_step hp (fun Q hq => H Q (fun _ => hq) fun hn => absurd hc hn) (h1 hc)
  · exact st_step hp (fun Q hq => H Q (fun hy => absurd hy hc) fun _ => hq) (h2 hc)
theorem st_index_rd {L B sz c : Nat} {cs : List Value} {i : Int} {z : Value} {by_ : Nat} (T : SlT P xt e z sz by_) (hx : (putsL a l).eval x = v) (hr : RdC w L B sz v c cs) (hy : (putsL a l).eval y = .int k i) (h0 : 0 ≤ i) (h1 : i < (c : Int))
    (h : ∀ b off, L ≤ b → b < B → (∀ j u, j < sz → cs[i.toNat * sz + j]? = some u → w.cell? ⟨b, off + j, none⟩ = some u) → wpStill P ops w K rest (putsL a ((d, ptr b off) :: l))) :
    wpStill P ops w K (⟨some d, .indexAddr xt x y, ty, p, af, none⟩ :: rest) (putsL a l) :=
  st_any (S := fun a' => ∃ b off, (L ≤ b ∧ b < B ∧ ∀ j u, j < sz → cs[i.toNat * sz + j]? = some u → w.cell? ⟨b, off + j, none⟩ = some u) ∧ a' = putsL a ((d, ptr b off) :: l)) rfl
    (fun _ hq => op_index_rd T hx hr hy h0 h1 fun b off g1 g2 g3 => hq _ ⟨b, off, ⟨g1, g2, g3⟩, rfl⟩) fun _ ⟨b, off, ⟨g1, g2, g3⟩, e⟩ => by subst e; exact h b off g1 g2 g3
theorem st_index_own {n base sz by_ i : Nat} {cs : List Value} (T : SlT P xt e zv sz by_) (hx : (putsL a l).eval x = v) (O : Own w base e sz v n cs) (hy : (putsL a l).eval y = .int k r) (hr : r = (i : Int)) (h1 : i < n)
    (h : ∀ b o, base ≤ b → AtV v (i * sz) b o → wpStill P ops w K rest (putsL a ((d, ptr b o) :: l))) : wpStill P ops w K (⟨some d, .indexAddr xt x y, ty, p, af, none⟩ :: rest) (putsL a l) :=
  st_any (S := fun a' => ∃ b o, (base ≤ b ∧ AtV v (i * sz) b o) ∧ a' = putsL a ((d, ptr b o) :: l)) rfl (fun _ hq => op_index_own T hx O hy hr h1 fun b o g1 g2 => hq _ ⟨b, o, ⟨g1, g2⟩, rfl⟩) fun _ ⟨b, o, ⟨g1, g2⟩, e⟩ => by subst e; exact h b o g1 g2
theorem st_slice_rd {L B c lo hi sz by_ : Nat} {cs : List Value} {low high : Option Operand} (T : SlT P t e zv sz by_) (hx : (putsL a l).eval x = v) (hr : RdC w L B sz v c cs)
    (hlo : (low = none ∧ lo = 0) ∨ ∃ q k, low = some q ∧ (putsL a l).eval q = .int k (lo : Int)) (hhi : (high = none ∧ hi = c) ∨ ∃ q k, high = some q ∧ (putsL a l).eval q = .int k (hi : Int)) (h1 : lo ≤ hi) (h2 : hi ≤ c)
    (h : ∀ v', RdC w L B sz v' (hi - lo) ((cs.drop (lo * sz)).take ((hi - lo) * sz)) → wpStill P ops w K rest (putsL a ((d, v') :: l))) :
    wpStill P ops w K (⟨some d, .slice t x low high none, ty, p, af, none⟩ :: rest) (putsL a l) :=
  st_any (S := fun a' => ∃ v', RdC w L B sz v' (hi - lo) ((cs.drop (lo * sz)).take ((hi - lo) * sz)) ∧ a' = putsL a ((d, v') :: l)) rfl (fun _ hq => op_slice_rd T hx hr hlo hhi h1 h2 fun v' g => hq _ ⟨v', g, rfl⟩) fun _ ⟨v', g, e⟩ => by subst e; exact h v' g
/-- a call that hands one value back and leaves the world as it is -/
theorem st_fn {f : FuncId} {ags : List Operand} {ts : Array Nat} {vs : List Value} (hf : callOk P f = true) (hm : argsEv (putsL a l).eval ags vs) (hc : Ret P f vs.toArray w (fun v' w' => v' = v ∧ w' = w))
    (h : wpStill P ops w K rest (putsL a ((d, v) :: l))) : wpStill P ops w K (⟨some d, .call ⟨.value (.func f), ags.toArray, ts⟩, ty, p, af, none⟩ :: rest) (putsL a l) := by
  unfold wpStill
  rw [if_pos (show Region.wanted _ _ = true from rfl)]
  have he : (execOp (putsL a l).eval ⟨some d, .call ⟨.value (.func f), ags.toArray, ts⟩, ty, p, af, none⟩).run P w = .ok (.enter f vs.toArray) w := by
    show (callFunc f (#[] ++ ags.toArray.map (putsL a l).eval ++ #[])).run P w = _
    rw [List.map_toArray, argsEv_map hm, run_callFunc hf]; simp
  unfold Oper.still
  rw [he]
  exact ⟨rfl, v, Calls.mono hc fun e w' ⟨v', he, hv, hw⟩ => ⟨by rw [he, hv], hw⟩, h⟩
theorem st_g_true {o oj : Oper} {j dj : Nat} {b : Bool} (hg : o.guard = some (j, b)) (hj : ops[j]? = some oj) (hd : oj.dst = some dj) (hv : (putsL a l).eval (.tmp dj) = .bool b)
    (h : wpStill P ops w K (⟨o.dst, o.op, o.type, o.pos, o.after, none⟩ :: rest) (putsL a l)) : wpStill P ops w K (o :: rest) (putsL a l) := by
  have hv' : (putsL a l).tmps.getD dj undef = .bool b := hv
  have hy : yielded ops (putsL a l).tmps j = some b := by
    unfold yielded
    simp only [hj, Option.bind_some, hd]
    rw [Array.getD_eq_getD_getElem?] at hv'
    cases hq : (putsL a l).tmps[dj]? with
    | none => rw [hq] at hv'; simp [undef] at hv'
    | some v => rw [hq] at hv'; simp at hv'; subst hv'; rfl
  unfold wpStill at h ⊢
  have h1 : Region.wanted o (yielded ops (putsL a l).tmps) = true := by simp [Region.wanted, hg, hy]
  have h2 : Region.wanted ⟨o.dst, o.op, o.type, o.pos, o.after, none⟩ (yielded ops (putsL a l).tmps) = true := rfl
  rw [if_pos h2] at h
  rw [if_pos h1]
  exact h
theorem st_g_false {o oj : Oper} {j dj dd : Nat} {b c : Bool} (hg : o.guard = some (j, b)) (hj : ops[j]? = some oj) (hd : oj.dst = some dj) (hv : (putsL a l).eval (.tmp dj) = .bool c) (hne : (c == b) = false) (hdd : o.dst = some dd)
    (h : wpStill P ops w K rest (putsL a ((dd, undef) :: l))) : wpStill P ops w K (o :: rest) (putsL a l) := by
  have hv' : (putsL a l).tmps.getD dj undef = .bool c := hv
  have hy : yielded ops (putsL a l).tmps j = some c := by
    unfold yielded
    simp only [hj, Option.bind_some, hd]
    rw [Array.getD_eq_getD_getElem?] at hv'
    cases hq : (putsL a l).tmps[dj]? with
    | none => rw [hq] at hv'; simp [undef] at hv'
    | some v => rw [hq] at hv'; simp at hv'; subst hv'; rfl
  unfold wpStill
  have h1 : Region.wanted o (yielded ops (putsL a l).tmps) = false := by
    simp only [Region.wanted, hg, hy]
    cases c <;> cases b <;> simp_all
  simp only [h1, Bool.false_eq_true, if_false, hdd]
  exact h
theorem st_g_undef {o oj : Oper} {j dj dd : Nat} {b : Bool} (hg : o.guard = some (j, b)) (hj : ops[j]? = some oj) (hd : oj.dst = some dj) (hv : (putsL a l).eval (.tmp dj) = undef) (hdd : o.dst = some dd)
    (h : wpStill P ops w K rest (putsL a ((dd, undef) :: l))) : wpStill P ops w K (o :: rest) (putsL a l) := by
  have hv' : (putsL a l).tmps.getD dj undef = undef := hv
  have hy : yielded ops (putsL a l).tmps j = none := by
    unfold yielded
    simp only [hj, Option.bind_some, hd]
    rw [Array.getD_eq_getD_getElem?] at hv'
    cases hq : (putsL a l).tmps[dj]? with
    | none => rfl
    | some v => rw [hq] at hv'; simp at hv'; subst hv'; rfl
  unfold wpStill
  have h1 : Region.wanted o (yielded ops (putsL a l).tmps) = false := by
    simp [Region.wanted, hg, hy]
  simp only [h1, Bool.false_eq_true, if_false, hdd]
  exact h
theorem getD_mem {α : Type} {l : List α} {i : Nat} {d : α} (h : i < l.length) : l.getD i d ∈ l := by simp [h]
theorem el_ll {α : Type} {l : List (Value × α)} {e : Int} {i : Nat} {d : Value × α} (he : e = (i : Int)) (h : i < l.length) : (l.flatMap (fun x9 => [x9.1]))[e.toNat * 1 + 0]? = some (l.getD i d).1 := by
  subst he
  rw [flat_get (sz := 1) (by decide) l (fun _ _ => rfl)]
  simp [h, Nat.mod_one]
/-- the region, told in the text's order -/
theorem reg_still {id : Nat} {ol : List Oper} (hm : P.follows .mixedOrders = true) (hB : Region.lexB .any ol.toArray = true)
    (h : ∀ w', w.grownBy w' none → wpStill P ol.toArray w' (fun a' => Q .normal a' w') ol (putsL a l)) : (Code.region id ol.toArray true).wp P Q (putsL a l) w :=
  wp_region_still_lit hm hB (h _ ⟨rfl, rfl, rfl, Nat.le_refl _, fun _ _ _ => rfl⟩)
theorem reg_still_tail {id : Nat} {ol hd tl : List Oper} (n : Nat) (hm : P.follows .mixedOrders = true) (hB : Region.lexTailB .any ol.toArray n = true) (h1 : hd ++ tl = ol) (h2 : hd.length = n)
    (h : ∀ w', w.grownBy w' none → wpStill P ol.toArray w' (fun a' => wpList P ol.toArray Q tl a' w') hd (putsL a l)) : (Code.region id ol.toArray true).wp P Q (putsL a l) w :=
  wp_region_still_tail n hm hB (by rw [← h1, ← h2, List.take_left, List.drop_left, h1]; exact h _ ⟨rfl, rfl, rfl, Nat.le_refl _, fun _ _ _ => rfl⟩)
end
end Go.Gx

/- Small laws for walks, the twentieth part: a region whose first operations come in any order, and the others behind them, one by one. -/
namespace Go.Gx
open Go.RowKit
/-- A region's operations in any order. -/
def RegAny (P : Program) (ol : List Oper) (Q : Exit → Act → World → Prop) (a : Act) (w : World) : Prop :=
  wpAny P .any ol.toArray Q ol.length (Array.replicate ol.length false) a { w with drawn := w.drawn + 1 }
theorem reg_of_any {P : Program} {id : Nat} {ol : List Oper} {Q : Exit → Act → World → Prop} {a : Act} {w : World} (hm : P.follows .mixedOrders = true) (h : RegAny P ol Q a w) : (Code.region id ol.toArray true).wp P Q a w :=
  wp_region_any hm (by simpa [RegAny] using h)
/-- The first k operations are done; the others come in any order. -/
def AnyFrom (P : Program) (ol : List Oper) (Q : Exit → Act → World → Prop) (k : Nat) (a : Act) (w : World) : Prop :=
  wpAny P .any ol.toArray Q (ol.length - k) (Array.replicate k true ++ Array.replicate (ol.length - k) false) a w
/-- Those from m on wait for all below m. -/
def restB (ol : List Oper) (m : Nat) : Bool :=
  Region.sinkB .any ol.toArray m && (List.range ol.length).all (fun t => decide (t ≤ m) || (List.range ol.length).any fun s => decide (m ≤ s) && Region.waitsFor .any ol.toArray t s)
/-- What is asked of the parts: all of the first are waited for, and nothing of the others comes ahead of that. -/
def splitB (ol : List Oper) (m : Nat) : Bool :=
  Nat.blt m ol.length && restB ol m && lexB' ol && (ol.take m).all (fun o => match o.guard with | some (j, _) => Nat.blt j m | none => true)
section
variable {P : Program} {Q : Exit → Act → World → Prop} {A B : List Oper}
theorem upon_split {o : Oper} {a : Act} {w : World} {K K' : Act → World → Prop} {Q1 : Exit → Act → World → Prop} (hk : ∀ a w, K a w → K' a w) (hq : ∀ e a w, Q1 e a w → e = .normal) (h : o.wp P a w K Q1 ∨ (o.asks P a w ∧ LetsOut Q1)) : o.wp P a w K' Q ∨ (o.asks P a w ∧ LetsOut Q) := by
  rcases h with h | ⟨_, a1, w1, h1⟩
  · refine .inl ?_
    unfold Oper.wp at *
    generalize (execOp a.eval o).run P w = r at *
    cases r with
    | ok n w' =>
      cases n <;> simp only [Oper.upon] at h ⊢ <;>
        first
          | exact hk _ _ h
          | exact Calls.mono h (fun e w'' he => by
              cases e with
              | returned v => exact hk _ _ he
              | panicked c => exact absurd (hq _ _ _ he) (by simp)
              | outgrown => obtain ⟨a1, w1, h1⟩ := he; exact absurd (hq _ _ _ h1) (by simp))
          | exact Rows.mono h (fun _ _ he => hk _ _ he)
    | halt x w' => cases x <;> simp only [Oper.upon] at h ⊢ <;> exact absurd (hq _ _ _ h) (by simp)
  · exact absurd (hq _ _ _ h1) (by simp)
theorem get_left {i : Nat} (h : i < A.length) : (A ++ B).toArray[i]? = A.toArray[i]? := by simp [List.getElem?_append_left h]
theorem gd_left {listed : Array Bool} {n i : Nat} {d : Bool} (h : i < listed.size) : (listed ++ Array.replicate n false).getD i d = listed.getD i d := by
  simp [Array.getD_eq_getD_getElem?, Array.getElem?_append_left h]
theorem gd_right {listed : Array Bool} {n i : Nat} (h : listed.size ≤ i) : (listed ++ Array.replicate n false).getD i false = false := by
  rw [Array.getD_eq_getD_getElem?, Array.getElem?_append_right h]
  rcases Nat.lt_or_ge (i - listed.size) n with h1 | h1
  · simp [h1]
  · simp [h1]
theorem split_steps (hs : splitB (A ++ B) A.length = true) : ∀ (f : Nat) (listed : Array Bool) (a : Act) (w : World), listed.size = A.length →
    (∀ j o, A[j]? = some o → listed.getD j true = true → ∀ e ∈ o.after, Region.binds .any e = true → listed.getD e.on false = true) → (List.range A.length).countP (fun i => !listed.getD i true) = f →
    wpAny P .any A.toArray (fun e a w => e = .normal ∧ AnyFrom P (A ++ B) Q A.length a w) f listed a w → wpAny P .any (A ++ B).toArray Q (f + B.length) (listed ++ Array.replicate B.length false) a w := by
  simp only [splitB, restB, Bool.and_eq_true, Nat.blt_eq, List.length_append] at hs
  obtain ⟨⟨⟨hlt, hsink, hchain⟩, hlex⟩, hgd⟩ := hs
  have hlen : A.length + B.length - A.length = B.length := by omega
  rw [List.take_left] at hgd
  intro f
  induction f with
  | zero =>
    intro listed a w hsz hcl hc H
    have hall : listed = Array.replicate A.length true := by
      apply Array.ext
      · simp [hsz]
      · intro i h1 h2
        have hz := List.countP_eq_zero.1 hc i (by simpa using h2)
        simp [Array.getD_eq_getD_getElem?, h1] at hz
        simp [hz]
    subst hall
    have := H.2.2
    unfold AnyFrom at this
    rw [List.length_append, hlen] at this
    rwa [Nat.zero_add]
  | succ f ih =>
    intro listed a w hsz hcl hc H
    -- one of the first is not there yet
    have hex : ∃ i, i < A.length ∧ listed.getD i true = false := by
      refine Decidable.by_contra fun hn => ?_
      have : (List.range A.length).countP (fun i => !listed.getD i true) = 0 := by
        rw [List.countP_eq_zero]
        intro i hi hb
        exact hn ⟨i, by simpa using hi, by simpa using hb⟩
      omega
    have hloc : ∀ i, i < A.length → ∀ o, A[i]? = some o → ∀ e ∈ o.after, Region.binds .any e = true → e.on < i := by
      intro i hi o ho e he hb
      have h1 := List.all_eq_true.1 hlex i (by simp; omega)
      simp only [List.getElem?_append_left hi, ho, Array.all_eq_true_iff_forall_mem, Bool.or_eq_true, Bool.not_eq_true', Nat.blt_eq] at h1
      exact (h1 e he).resolve_left (by simp [hb])
    have hfirst : ∃ i, i ∈ Region.ready .any A.toArray listed := by
      obtain ⟨i, hi, hf⟩ := hex
      induction i using Nat.strongRecOn with
      | _ i ihi =>
        by_cases hr : i ∈ Region.ready .any A.toArray listed
        · exact ⟨i, hr⟩
        · rw [mem_ready] at hr
          have : ¬ ∀ e ∈ A[i].after, Region.binds .any e = true → listed.getD e.on false = true := fun hh => hr ⟨hf, A[i], by simp [hi], hh⟩
          simp only [Classical.not_forall] at this
          obtain ⟨e, he, hb, hne⟩ := this
          have hlo := hloc i hi A[i] (by simp [hi]) e he hb
          exact ihi e.on hlo (by omega) (by
            rw [← Bool.not_eq_true]; intro hh; exact hne (getD_true_lt hh (by omega)))
    -- what is ready, is one of the first
    have hready : ∀ i, i ∈ Region.ready .any (A ++ B).toArray (listed ++ Array.replicate B.length false) → i ∈ Region.ready .any A.toArray listed := by
      intro i hi
      obtain ⟨hun, o, ho, hw⟩ := mem_ready.1 hi
      rcases Nat.lt_or_ge i A.length with hia | hia
      · rw [gd_left (by omega)] at hun
        rw [get_left hia] at ho
        refine mem_ready.2 ⟨hun, o, ho, fun e he hb => ?_⟩
        have := hw e he hb
        have hlo := hloc i hia o (by simpa using ho) e he hb
        rwa [gd_left (by omega)] at this
      · exfalso
        rcases Nat.lt_or_ge A.length i with h1 | h1
        · have hin : i < A.length + B.length := by have := (Array.getElem?_eq_some_iff.1 ho).1; simpa using this
          have h2 := List.all_eq_true.1 hchain i (by simp; omega)
          simp only [Bool.or_eq_true, decide_eq_true_eq] at h2
          obtain ⟨q, hq1, hq2⟩ := List.any_eq_true.1 (h2.resolve_left (by omega))
          simp only [Bool.and_eq_true, decide_eq_true_eq] at hq2
          obtain ⟨oj, hoj, e, he, hb, hon⟩ := Region.waitsFor_spec hq2.2
          rw [ho] at hoj; cases hoj
          have := hw e he hb
          rw [hon, gd_right (by omega)] at this
          cases this
        · have : i = A.length := by omega
          subst this
          obtain ⟨i0, hi0, hf0⟩ := hex
          -- the last that is not there is waited for
          have hup : ∀ k i, A.length - i = k → i < A.length → listed.getD i true = false → False := by
            intro k
            induction k using Nat.strongRecOn with
            | _ k ihk =>
              intro i hk hi hf
              have h3 := List.all_eq_true.1 hsink i (by simpa using hi)
              obtain ⟨j, hj, h4⟩ := List.any_eq_true.1 h3
              simp only [Bool.and_eq_true, decide_eq_true_eq, List.mem_range] at h4 hj
              obtain ⟨oj, hoj, e, he, hb, hon⟩ := Region.waitsFor_spec h4.2
              rcases Nat.lt_or_ge j A.length with hja | hja
              · refine ihk (A.length - j) (by omega) j rfl hja ?_
                rw [← Bool.not_eq_true]
                intro hh
                rw [get_left hja] at hoj
                have := hcl j oj (by simpa using hoj) hh e he hb
                rw [hon] at this
                have h5 : listed.getD i true = true := by
                  rw [Array.getD_eq_getD_getElem?] at this ⊢
                  cases hq : listed[i]? with
                  | none => simp [hq] at this
                  | some b => simpa [hq] using this
                rw [hf] at h5; cases h5
              · have : j = A.length := by omega
                subst this
                rw [ho] at hoj; cases hoj
                have := hw e he hb
                rw [hon, gd_left (by omega)] at this
                have h5 : listed.getD i true = true := by
                  rw [Array.getD_eq_getD_getElem?] at this ⊢
                  cases hq : listed[i]? with
                  | none => simp [hq] at this
                  | some b => simpa [hq] using this
                rw [hf] at h5; cases h5
          exact hup _ i0 rfl hi0 hf0
    have hready' : ∀ i, i ∈ Region.ready .any A.toArray listed → i ∈ Region.ready .any (A ++ B).toArray (listed ++ Array.replicate B.length false) := by
      intro i hi
      obtain ⟨hun, o, ho, hw⟩ := mem_ready.1 hi
      have hia : i < A.length := by have := (Array.getElem?_eq_some_iff.1 ho).1; simpa using this
      refine mem_ready.2 ⟨by rw [gd_left (by omega)]; exact hun, o, by rw [get_left hia]; exact ho, fun e he hb => ?_⟩
      have hlo := hloc i hia o (by simpa using ho) e he hb
      rw [gd_left (by omega)]
      exact hw e he hb
    rw [show f + 1 + B.length = (f + B.length) + 1 by omega]
    refine ⟨fun hr => ?_, fun i hi => ?_⟩
    · obtain ⟨i, hi⟩ := hfirst
      have := hready' i hi
      rw [hr] at this
      cases this
    · have hiA := hready i hi
      have H2 := H.2 i hiA
      obtain ⟨hun, o, ho, hw⟩ := mem_ready.1 hiA
      have hia : i < A.length := by have := (Array.getElem?_eq_some_iff.1 ho).1; simpa using this
      have hoA : A[i]? = some o := by simpa using ho
      have hstep : ∀ a' w', wpAny P .any A.toArray (fun e a w => e = .normal ∧ AnyFrom P (A ++ B) Q A.length a w) f (listed.setIfInBounds i true) a' w' →
          wpAny P .any (A ++ B).toArray Q (f + B.length) ((listed ++ Array.replicate B.length false).setIfInBounds i true) a' w' := by
        intro a' w' hh
        have e1 : (listed ++ Array.replicate B.length false).setIfInBounds i true = listed.setIfInBounds i true ++ Array.replicate B.length false := by
          rw [Array.setIfInBounds_append_left (by omega)]
        rw [e1]
        refine ih _ a' w' (by simp [hsz]) (fun j oj hoj hl e he hb => ?_) ?_ hh
        · refine getD_set_true ?_
          by_cases hji : j = i
          · subst hji
            rw [hoA] at hoj; cases hoj
            exact hw e he hb
          · rw [getD_set_ne true (Ne.symm hji)] at hl
            exact hcl j oj hoj hl e he hb
        · have hc' : (List.range A.length).countP (fun j => !(listed.setIfInBounds i true).getD j true) + 1 = (List.range A.length).countP (fun j => !listed.getD j true) := by
            have hmem : i ∈ List.range A.length := by simpa using hia
            have hnd : (List.range A.length).Nodup := List.nodup_range
            generalize List.range A.length = L at hmem hnd
            clear hc H H2 hh ih
            induction L with
            | nil => cases hmem
            | cons x L ihL =>
              have hnd' := List.nodup_cons.1 hnd
              rw [List.countP_cons, List.countP_cons]
              rcases List.mem_cons.1 hmem with rfl | hm
              · have e2 : L.countP (fun j => !(listed.setIfInBounds i true).getD j true) = L.countP (fun j => !listed.getD j true) := by
                  refine List.countP_congr fun j hj => ?_
                  have hne : i ≠ j := fun e => hnd'.1 (by rw [e]; exact hj)
                  rw [getD_set_ne true hne]
                have e3 : (listed.setIfInBounds i true).getD i true = true := by simp [Array.getD_eq_getD_getElem?, hsz, hia]
                rw [e2, e3, hun]; simp
              · have hne : i ≠ x := fun e => hnd'.1 (by rw [← e]; exact hm)
                rw [getD_set_ne true hne]
                have := ihL hm hnd'.2
                omega
          omega
      unfold wpOp at H2 ⊢
      have hoAB : (A ++ B).toArray[i]? = some o := by rw [get_left hia]; exact ho
      simp only [ho, hoAB] at H2 ⊢
      have hy : Region.wanted o (yielded (A ++ B).toArray a.tmps) = Region.wanted o (yielded A.toArray a.tmps) := by
        have hg := List.all_eq_true.1 hgd o (List.mem_of_getElem? hoA)
        unfold Region.wanted
        cases hgu : o.guard with
        | none => rfl
        | some jb =>
          obtain ⟨j, b⟩ := jb
          simp only [hgu, Nat.blt_eq] at hg
          simp only [yielded, get_left (A := A) (B := B) hg]
      rw [hy]
      split
      · rename_i hwt
        rw [if_pos hwt] at H2
        exact upon_split hstep (fun e a w h => h.1) H2
      · rename_i hwt
        rw [if_neg hwt] at H2
        exact hstep _ _ H2
/-- The first part of a region in any order, then the others. -/
theorem reg_split {id : Nat} {ol hd tl : List Oper} {a : Act} {w : World} (m : Nat) (hm : P.follows .mixedOrders = true) (hs : splitB ol m = true) (h1 : hd ++ tl = ol) (h2 : hd.length = m)
    (h : RegAny P hd (fun e a w => e = .normal ∧ AnyFrom P ol Q m a w) a w) : (Code.region id ol.toArray true).wp P Q a w := by
  subst h1; subst h2
  refine reg_of_any hm ?_
  have := split_steps (P := P) (Q := Q) hs hd.length (Array.replicate hd.length false) a { w with drawn := w.drawn + 1 } (by simp) (fun j o hj hl => by
    have : j < hd.length := (List.getElem?_eq_some_iff.1 hj).1
    simp [Array.getD_eq_getD_getElem?, this] at hl) (by
    have : (List.range hd.length).countP (fun i => !(Array.replicate hd.length false).getD i true) = (List.range hd.length).length := by
      rw [List.countP_eq_length]
      intro i hi
      have hi' : i < hd.length := by simpa using hi
      simp [Array.getD_eq_getD_getElem?, hi']
    simpa using this) h
  unfold RegAny
  have e : Array.replicate (hd ++ tl).length false = Array.replicate hd.length false ++ Array.replicate tl.length false := by
    rw [List.length_append, Array.replicate_append_replicate]
  rw [e, List.length_append]
  exact this
theorem split_end {ol : List Oper} {m : Nat} {a : Act} {w : World} (h : AnyFrom P ol Q m a w) : (fun e a w => e = Exit.normal ∧ AnyFrom P ol Q m a w) .normal a w := ⟨rfl, h⟩
/-- A region from its beginning. -/
theorem reg_from {id : Nat} {ol : List Oper} {a : Act} {w : World} (hm : P.follows .mixedOrders = true) (h : ∀ w', w.grownBy w' none → AnyFrom P ol Q 0 a w') : (Code.region id ol.toArray true).wp P Q a w := by
  refine reg_of_any hm ?_
  have := h { w with drawn := w.drawn + 1 } ⟨rfl, rfl, rfl, Nat.le_refl _, fun _ _ _ => rfl⟩
  unfold AnyFrom at this
  unfold RegAny
  simpa using this
end
section
variable {P : Program} {ol : List Oper} {Q : Exit → Act → World → Prop} {Φ : Nat → Nat → Value → Value → World → Prop} {C : Nat → Value → World → Prop} {ch : Chain} {v0 : Value} {a0 : Act} {N : Nat}
theorem any_chain (ch : Chain) (v0 : Value) (hlex : lexB' ol = true) (hdn : dstNB ol N = true) (hdst : dstsB ol = true) (hch : ch.okB ol = true)
    {l : List (Nat × Value)} {w : World} (hN : a0.tmps.size = N)
    (hΦ0 : ∀ j c v u w1 w2, w1.grownBy w2 none → Φ j c v u w1 → Φ j c v u w2) (hΦ1 : ∀ j c v v' u w1 w2, c < ch.ops.length → StepC v v' w1 w2 → Φ j c v u w1 → Φ j (c + 1) v' u w2)
    (hC : ∀ c v w1 w2, w1.grownBy w2 none → C c v w1 → C c v w2) (hCl : ∀ c v w, C c v w → ∀ k, v.ownBlock = some k → k < w.heap.size)
    (hC0 : C 0 v0 w)
    (obN : ∀ i o, ol[i]? = some o → ch.has i = false → ObNc P ol Φ ch v0 (putsL a0 l) N w i o) (obC : ∀ c i o, ch.ops[c]? = some i → ol[i]? = some o → ObCc P ol Φ C ch v0 (putsL a0 l) N w c i o)
    (fin : ∀ a' w' v, a'.tmps.size = N → a'.defers = a0.defers → (∀ t, (ol.all fun o => o.dst != some t) = true → a'.tmps.getD t undef = (putsL a0 l).tmps.getD t undef) →
      (∀ j oj d, ol[j]? = some oj → oj.dst = some d → Φ j ch.ops.length v (a'.tmps.getD d undef) w') → C ch.ops.length v w' → w.grownBy w' v0.ownBlock → (v.ownBlock = v0.ownBlock ∨ ∀ k, v.ownBlock = some k → w.heap.size ≤ k) → Q .normal (putsL a' []) w') :
    RegAny P ol Q (putsL a0 l) w := by
  have hd : w.grownBy { w with drawn := w.drawn + 1 } none := ⟨rfl, rfl, rfl, Nat.le_refl _, fun _ _ _ => rfl⟩
  have I : RInc ol Φ C ch v0 (putsL a0 l) N w (Array.replicate ol.length false) 0 (putsL a0 l) { w with drawn := w.drawn + 1 } := by
    refine ⟨slN hN, rfl, fun _ _ => rfl, fun j o d hj hl => ?_, fun j o hj hl => ?_, by simp, Nat.zero_le _, fun m i hm => ?_, hC _ _ _ _ hd hC0, grown_any hd _, .inl rfl⟩
    · have : j < ol.length := (List.getElem?_eq_some_iff.1 hj).1
      simp [Array.getD_eq_getD_getElem?, this] at hl
    · have : j < ol.length := (List.getElem?_eq_some_iff.1 hj).1
      simp [Array.getD_eq_getD_getElem?, this] at hl
    · have h3 : i < ol.length := by
        have hch' := hch
        simp only [Chain.okB, Bool.and_eq_true] at hch'
        have := List.all_eq_true.1 hch'.1.2 i (List.mem_of_getElem? hm)
        simpa [Nat.blt_eq] using this
      simp [Array.getD_eq_getD_getElem?, h3]
  exact region_chain_steps (P := P) (Q := Q) hlex hdn hdst hch w hΦ0 hΦ1 hC hCl obN obC (fun a' w' J => fin a' w' _ J.size (by rw [J.defers, putsL_defers]) (fun t ht => J.base t fun j o hj _ hd => by
      have := List.all_eq_true.1 ht o (List.mem_of_getElem? hj)
      simp [hd] at this) (fun j oj d hj hd => J.phi j oj d hj (by
        have : j < ol.length := (List.getElem?_eq_some_iff.1 hj).1
        simp [Array.getD_eq_getD_getElem?, this]) hd) J.chainC J.rel J.own) ol.length (Array.replicate ol.length false) 0 _ _ I (Nat.le_trans (List.countP_le_length) (by simp))
end
section
variable {P : Program} {ol : List Oper} {Q : Exit → Act → World → Prop} {Φ : Nat → Value → World → Prop} {a0 : Act} {N : Nat} {l : List (Nat × Value)} {w : World}
theorem any_quiet (hlex : lexB' ol = true) (hdn : dstNB ol N = true) (hdst : dstsB ol = true) (hN : a0.tmps.size = N)
    (hΦ : ∀ j u w1 w2, w1.grownBy w2 none → Φ j u w1 → Φ j u w2)
    (obN : ∀ i o, ol[i]? = some o → ObN P ol Φ (putsL a0 l) N w (fun w1 w2 => w1.grownBy w2 none) i o)
    (fin : ∀ a' w', a'.tmps.size = N → a'.defers = a0.defers → (∀ t, (ol.all fun o => o.dst != some t) = true → a'.tmps.getD t undef = (putsL a0 l).tmps.getD t undef) →
      (∀ j oj d, ol[j]? = some oj → oj.dst = some d → Φ j (a'.tmps.getD d undef) w') → w.grownBy w' none → Q .normal (putsL a' []) w') : RegAny P ol Q (putsL a0 l) w := by
  have hd : w.grownBy { w with drawn := w.drawn + 1 } none := ⟨rfl, rfl, rfl, Nat.le_refl _, fun _ _ _ => rfl⟩
  have I : RInv ol Φ (fun _ _ _ => True) (noChain N) (putsL a0 l) N w (fun w1 w2 => w1.grownBy w2 none) (Array.replicate ol.length false) 0 (putsL a0 l) { w with drawn := w.drawn + 1 } := by
    refine ⟨slN hN, rfl, fun _ _ => rfl, fun j o d hj hl => ?_, fun j o hj hl => ?_, by simp, Nat.zero_le _, fun m i hm => by simp [noChain] at hm, trivial, hd⟩
    · have : j < ol.length := (List.getElem?_eq_some_iff.1 hj).1
      simp [Array.getD_eq_getD_getElem?, this] at hl
    · have : j < ol.length := (List.getElem?_eq_some_iff.1 hj).1
      simp [Array.getD_eq_getD_getElem?, this] at hl
  exact region_any_steps (P := P) (Q := Q) (Φ := Φ) (R := fun w1 w2 => w1.grownBy w2 none) (C := fun _ _ _ => True) (ch := noChain N) hlex hdn hdst (noChain_ok hdn) w (fun _ _ _ => grown_trans) (fun _ _ h => h) hΦ (fun _ _ _ _ _ h => h) (fun i o hi _ => obN i o hi) (fun c i o hc _ => by simp [noChain] at hc) (fun a' w' J => fin a' w' J.size (by rw [J.defers, putsL_defers]) (fun t ht => J.base t fun j o hj _ hd => by
      have := List.all_eq_true.1 ht o (List.mem_of_getElem? hj)
      simp [hd] at this) (fun j oj d hj hd => J.phi j oj d hj (by
        have : j < ol.length := (List.getElem?_eq_some_iff.1 hj).1
        simp [Array.getD_eq_getD_getElem?, this]) hd) J.rel) ol.length (Array.replicate ol.length false) 0 _ _ I (Nat.le_trans (List.countP_le_length) (by simp))
end
end Go.Gx

/- Small laws for walks, the twenty-first part: a region told part by part: single operations, and blocks in any order that leave the world as it is. -/
namespace Go.Gx
open Go.RowKit
def blockB (ol : List Oper) : Nat → Nat → Array Bool → Bool
  | 0, _, _ => true
  | n + 1, k, listed => (Region.ready .any ol.toArray listed).contains k && Region.free .any ol.toArray listed k && blockB ol n (k + 1) (listed.setIfInBounds k true)
/-- A block of n operations from k on. -/
def stillB (ol : List Oper) (k n : Nat) : Bool :=
  Region.noSelect ol.toArray && lexB' ol && Nat.ble (k + n) ol.length && (restB ol (k + n) || Nat.beq (k + n) ol.length) && blockB ol n k (Array.replicate k true ++ Array.replicate (ol.length - k) false)
def oneB (ol : List Oper) (k : Nat) : Bool := Nat.blt k ol.length && decide (Region.ready .any ol.toArray (Array.replicate k true ++ Array.replicate (ol.length - k) false) = [k])
section
variable {P : Program} {Q : Exit → Act → World → Prop} {ol : List Oper} {w : World}
theorem listed_set {k N : Nat} (h : k < N) : (Array.replicate k true ++ Array.replicate (N - k) false).setIfInBounds k true = Array.replicate (k + 1) true ++ Array.replicate (N - (k + 1)) false := by
  apply Array.ext
  · simp; omega
  · intro i h1 h2
    have h1' : i < (Array.replicate k true ++ Array.replicate (N - k) false).size := by simpa using h1
    rw [Array.getElem_setIfInBounds h1']
    by_cases hi : k = i
    · subst hi; rw [if_pos rfl, Array.getElem_append_left (by simp)]; simp
    · rw [if_neg hi]
      rcases Nat.lt_or_ge i k with h3 | h3
      · rw [Array.getElem_append_left (by simpa using h3), Array.getElem_append_left (by simp; omega)]; simp
      · rw [Array.getElem_append_right (by simpa using h3), Array.getElem_append_right (by simp; omega)]; simp
theorem from_end {a : Act} (h : Q .normal a w) {k : Nat} (hk : ol.length = k) : AnyFrom P ol Q k a w := by
  subst hk
  unfold AnyFrom
  rw [Nat.sub_self]
  refine ⟨?_, h⟩
  rw [List.eq_nil_iff_forall_not_mem]
  intro i hi
  obtain ⟨h1, o, ho, _⟩ := mem_ready.1 hi
  have hl : i < ol.length := by simpa using (Array.getElem?_eq_some_iff.1 ho).1
  simp [Array.getD_eq_getD_getElem?, hl] at h1
theorem from_one {a : Act} {k k' : Nat} {o : Oper} (hB : oneB ol k = true) (hk' : k + 1 = k') (ho : ol[k]? = some o) (h : wpList P ol.toArray (fun e a' w' => e = .normal ∧ AnyFrom P ol Q k' a' w') [o] a w) : AnyFrom P ol Q k a w := by
  subst hk'
  simp only [oneB, Bool.and_eq_true, Nat.blt_eq, decide_eq_true_eq] at hB
  obtain ⟨hk, hr⟩ := hB
  unfold AnyFrom
  obtain ⟨f, hf⟩ : ∃ f, ol.length - k = f + 1 := ⟨ol.length - k - 1, by omega⟩
  have e1 : ol.length - (k + 1) = f := by omega
  have key : wpAny P .any ol.toArray Q (f + 1) (Array.replicate k true ++ Array.replicate (ol.length - k) false) a w := by
    refine ⟨fun h0 => (by rw [hr] at h0; cases h0), fun i hi => ?_⟩
    rw [hr] at hi
    have : i = k := by simpa using hi
    subst this
    refine wp_one (by simpa using ho) h fun a' w' hh => ?_
    rw [listed_set hk]
    unfold AnyFrom at hh
    rw [e1] at hh ⊢
    exact hh
  have e2 : ∀ g, g = f + 1 → wpAny P .any ol.toArray Q g (Array.replicate k true ++ Array.replicate (ol.length - k) false) a w := fun g hg => by subst hg; exact key
  exact e2 _ hf
theorem from_next {a : Act} {k : Nat} (h : AnyFrom P ol Q k a w) : wpList P ol.toArray (fun e a' w' => e = .normal ∧ AnyFrom P ol Q k a' w') [] a w := ⟨rfl, h⟩
theorem from_seq {a : Act} {k : Nat} {tl : List Oper} (hk : k < ol.length) (hB : Region.seqB .any ol.toArray (ol.length - k) k (Array.replicate k true ++ Array.replicate (ol.length - k) false) = true) (h1 : ol.drop k = tl) (h : wpList P ol.toArray Q tl a w) : AnyFrom P ol Q k a w := by
  subst h1
  have hl : (ol.drop k).length = ol.length - k := by simp
  have := wpAny_of_seq (md := .any) (Q' := Q) (P := P) (ops := ol.toArray) (ol.drop k) k _ a w (fun j => by simp) (by rw [hl]; exact hB) h
  rw [hl] at this
  exact this
theorem rest_waits {m : Nat} {listed : Array Bool} (hr : restB ol m = true) (inv : HeadInv .any ol.toArray m listed) : ∀ (d i : Nat), m - i = d → i < m → listed.getD i true = false → ∀ t, m ≤ t → t ∉ Region.ready .any ol.toArray listed := by
  simp only [restB, Bool.and_eq_true] at hr
  obtain ⟨hs, hc⟩ := hr
  intro d
  induction d using Nat.strongRecOn with
  | _ d ih =>
    intro i hd hi hun t ht htr
    obtain ⟨_, ot, hot, hall⟩ := mem_ready.1 htr
    have htl : t < ol.length := by simpa using (Array.getElem?_eq_some_iff.1 hot).1
    rcases Nat.lt_or_ge m t with h1 | h1
    · have h2 := List.all_eq_true.1 hc t (List.mem_range.2 htl)
      simp only [Bool.or_eq_true, decide_eq_true_eq] at h2
      obtain ⟨s, hs1, hs2⟩ := List.any_eq_true.1 (h2.resolve_left (by omega))
      simp only [Bool.and_eq_true, decide_eq_true_eq] at hs2
      obtain ⟨o', ho', e, he, hb, hon⟩ := Region.waitsFor_spec hs2.2
      rw [hot] at ho'; cases ho'
      have h3 := hall e he hb
      rw [hon, getD_both (inv.tail s hs2.1 (by simpa using List.mem_range.1 hs1))] at h3
      cases h3
    · have : t = m := by omega
      subst this
      obtain ⟨j, hj, hj2⟩ := List.any_eq_true.1 (List.all_eq_true.1 hs i (List.mem_range.2 hi))
      simp only [Bool.and_eq_true, decide_eq_true_eq] at hj2
      obtain ⟨oj, hoj, e, he, hb, hon⟩ := Region.waitsFor_spec hj2.2
      have hjle := List.mem_range.1 hj
      by_cases hjt : j = t
      · subst hjt
        rw [hot] at hoj; cases hoj
        have h3 := hall e he hb
        rw [hon, getD_both hun] at h3
        cases h3
      · cases hl : listed.getD j false with
        | true =>
          have h3 := inv.closed j oj hoj hl e he hb
          rw [hon, getD_both hun] at h3
          cases h3
        | false => exact ih (t - j) (by omega) j rfl (by omega) (getD_in (by rw [inv.size]; simp; omega) hl) t (Nat.le_refl _) htr
/-- One operation of a block may be taken first. -/
theorem block_first {m i : Nat} {oi : Oper} {v : Value} {L : Array Bool → Act → Prop} (hi : ol.toArray[i]? = some oi) (hsel : ∀ (j : Nat) (o : Oper) cs b, ol.toArray[j]? = some o → o.op ≠ .select cs b)
    (hns : ∀ listed, HeadInv .any ol.toArray m listed → listed.getD i true = false → ∀ t, m ≤ t → t ∉ Region.ready .any ol.toArray listed) (hin : i < m) (hdone : ∀ listed a, L listed a → ∀ j ∈ Region.ready .any ol.toArray listed, m ≤ j) :
    ∀ (f : Nat) (listed : Array Bool) (a : Act), HeadInv .any ol.toArray m listed →
      (∀ j oj, ol.toArray[j]? = some oj → j ≠ i → listed.getD j true = false → (∀ e ∈ oj.after, Region.binds .any e = true → e.on ≠ i) → oi.apart ol.toArray oj = true) →
      i ∈ Region.ready .any ol.toArray listed → YieldsAt P ol.toArray w oi v a → wpAnyL P .any ol.toArray w m L f (listed.setIfInBounds i true) (a.put oi.dst v) → wpAnyL P .any ol.toArray w m L (f + 1) listed a := by
  intro f
  induction f with
  | zero =>
    intro listed a inv _ hr hy H
    have hun := (mem_ready.1 hr).1
    refine ⟨fun h => (by rw [h] at hr; cases hr), fun j hj => ?_⟩
    have hjm : j < m := Nat.lt_of_not_le fun h => hns listed inv hun j h hj
    refine ⟨hjm, ?_⟩
    by_cases hji : j = i
    · rw [hji]; exact hy.stOp hi H
    · exact absurd (hdone _ _ H j (ready_mono hj hji)) (by omega)
  | succ f ih =>
    intro listed a inv hfree hr hy H
    have hun := (mem_ready.1 hr).1
    refine ⟨fun h => (by rw [h] at hr; cases hr), fun j hj => ?_⟩
    have hjm : j < m := Nat.lt_of_not_le fun h => hns listed inv hun j h hj
    refine ⟨hjm, ?_⟩
    by_cases hji : j = i
    · rw [hji]; exact hy.stOp hi H
    · obtain ⟨hjun, oj, hoj, hall⟩ := mem_ready.1 hj
      have hap := hfree j oj hoj hji hjun fun e he hb heq => by
        have h9 := hall e he hb
        rw [heq, getD_both hun] at h9
        cases h9
      have h2 := stOp_put hoj hap (fun cs b => hsel i oi cs b hi) (fun cs b => hsel j oj cs b hoj) hy (H.2 j (ready_mono hj hji)).2
      refine stOp_mono (fun a' h3 => ih (listed.setIfInBounds j true) a' (inv.set hj hjm) (fun k ok hk hki huk hno => hfree k ok hk hki ?_ hno) (ready_mono hr (Ne.symm hji)) h3.1 ?_) h2
      · by_cases hjk : j = k
        · rw [← hjk]; exact hjun
        · rwa [getD_set_ne true hjk] at huk
      · rw [Array.setIfInBounds_comm _ _ hji]
        exact h3.2
theorem block_lex {m N : Nat} (hN : ol.length = N) (hsel : ∀ (j : Nat) (o : Oper) cs b, ol.toArray[j]? = some o → o.op ≠ .select cs b) (hns : ∀ i listed, i < m → HeadInv .any ol.toArray m listed → listed.getD i true = false → ∀ t, m ≤ t → t ∉ Region.ready .any ol.toArray listed)
    {K : Act → Prop} {L : Array Bool → Act → Prop} (hdone : ∀ listed a, L listed a → ∀ j ∈ Region.ready .any ol.toArray listed, m ≤ j) (hL : ∀ a, K a → L (Array.replicate m true ++ Array.replicate (N - m) false) a) (hmN : m ≤ N) :
    ∀ (l : List Oper) (k : Nat) (a : Act), (∀ j, j < l.length → l[j]? = ol[k + j]?) → k + l.length = m → HeadInv .any ol.toArray m (Array.replicate k true ++ Array.replicate (N - k) false) →
      blockB ol l.length k (Array.replicate k true ++ Array.replicate (N - k) false) = true → wpStill P ol.toArray w K l a → wpAnyL P .any ol.toArray w m L l.length (Array.replicate k true ++ Array.replicate (N - k) false) a
  | [], k, a, _, hk, _, _, h => by
    have : k = m := by simpa using hk
    subst this
    exact hL a h
  | o :: l, k, a, hl, hk, inv, hB, h => by
    have hkm : k < m := by simp only [List.length_cons] at hk; omega
    have h0 : ol.toArray[k]? = some o := by have := (hl 0 (by simp)).symm; simpa using this
    simp only [List.length_cons, blockB, Bool.and_eq_true] at hB
    obtain ⟨⟨hr, hf⟩, hB'⟩ := hB
    have hr' : k ∈ Region.ready .any ol.toArray (Array.replicate k true ++ Array.replicate (N - k) false) := by simpa using hr
    have hst : stOp P ol.toArray w k (wpStill P ol.toArray w K l) a := by unfold stOp; simp only [h0]; exact h
    obtain ⟨v, hy, hK⟩ := yieldsAt_of_stOp h0 hst
    have e := listed_set (k := k) (N := N) (by omega)
    rw [e] at hB'
    have inv' := inv.set hr' hkm
    rw [e] at inv'
    refine block_first h0 hsel (fun listed iv hu => hns k listed hkm iv hu) hkm hdone l.length _ a inv (Region.free_spec h0 hf) hr' hy ?_
    rw [e]
    exact block_lex hN hsel hns hdone hL hmN l (k + 1) _ (fun j hj => by have := hl (j + 1) (by simp; omega); simpa [Nat.add_assoc, Nat.add_comm 1 j] using this) (by simp only [List.length_cons] at hk; omega) inv' hB' hK
theorem from_still {a : Act} {k m : Nat} (n : Nat) {hd : List Oper} (hB : stillB ol k n = true) (hk' : k + n = m) (h1 : (ol.drop k).take n = hd) (h : wpStill P ol.toArray w (fun a' => AnyFrom P ol Q m a' w) hd a) : AnyFrom P ol Q k a w := by
  subst hk'
  simp only [stillB, Bool.and_eq_true, Nat.ble_eq, Bool.or_eq_true] at hB
  obtain ⟨⟨⟨⟨hsel, hlex⟩, hkn⟩, hrest⟩, hblk⟩ := hB
  have hlen : hd.length = n := by rw [← h1]; simp; omega
  have hidx : ∀ j, j < hd.length → hd[j]? = ol[k + j]? := fun j hj => by
    rw [← h1, List.getElem?_take, if_pos (by omega), List.getElem?_drop]
  have inv : HeadInv .any ol.toArray (k + n) (Array.replicate k true ++ Array.replicate (ol.length - k) false) := by
    refine ⟨by simp; omega, fun j oj hoj hl e he hb => ?_, fun t ht htl => ?_⟩
    · have hjl : j < ol.length := by simpa using (Array.getElem?_eq_some_iff.1 hoj).1
      have hjk : j < k := by
        rcases Nat.lt_or_ge j k with h3 | h3
        · exact h3
        · rw [gd_right (by simpa using h3)] at hl; cases hl
      have h4 := List.all_eq_true.1 hlex j (by simpa using hjl)
      have hoj' : ol[j]? = some oj := by simpa using hoj
      simp only [hoj', Array.all_eq_true_iff_forall_mem, Bool.or_eq_true, Bool.not_eq_true', Nat.blt_eq] at h4
      have h5 := (h4 e he).resolve_left (by simp [hb])
      rw [gd_left (by simp; omega)]
      simp [Array.getD_eq_getD_getElem?, show e.on < k by omega]
    · have htl' : t < ol.length := by simpa using htl
      rw [Array.getD_eq_getD_getElem?, Array.getElem?_append_right (by simp; omega)]
      simp [show t - k < ol.length - k by omega]
  have hns : ∀ i listed, i < k + n → HeadInv .any ol.toArray (k + n) listed → listed.getD i true = false → ∀ t, k + n ≤ t → t ∉ Region.ready .any ol.toArray listed := by
    intro i listed hi iv hu t ht htr
    rcases hrest with hr | he
    · exact rest_waits hr iv _ i rfl hi hu t ht htr
    · obtain ⟨_, ot, hot, _⟩ := mem_ready.1 htr
      have h6 : t < ol.length := by simpa using (Array.getElem?_eq_some_iff.1 hot).1
      have := Nat.eq_of_beq_eq_true he
      omega
  have H := block_lex (P := P) (w := w) (K := fun a' => AnyFrom P ol Q (k + n) a' w) (L := fun listed' a' => listed' = Array.replicate (k + n) true ++ Array.replicate (ol.length - (k + n)) false ∧ AnyFrom P ol Q (k + n) a' w) rfl (Region.noSelect_spec hsel) hns
    (fun listed a' hh j hj => by
      obtain ⟨rfl, _⟩ := hh
      obtain ⟨hju, oj, hoj, _⟩ := mem_ready.1 hj
      rcases Nat.lt_or_ge j (k + n) with h7 | h7
      · rw [gd_left (by simpa using h7)] at hju
        simp [Array.getD_eq_getD_getElem?, h7] at hju
      · exact h7) (fun a' hh => ⟨rfl, hh⟩) hkn hd k a hidx (by omega) inv (by rw [hlen]; exact hblk) h
  have := wpAny_of_head (P := P) (md := .any) (w := w) (Q' := Q) (g := ol.length - (k + n)) (fun listed a' hh => by obtain ⟨rfl, hh⟩ := hh; exact hh) _ _ _ H
  unfold AnyFrom
  rw [hlen, show n + (ol.length - (k + n)) = ol.length - k by omega] at this
  exact this
end
end Go.Gx

/- Small laws for walks, the twenty-second part: pointers held against nil, rows cut behind a place and copied into. -/
namespace Go.Gx
open Go.RowKit
section
variable {P : Program} {Q : Exit → Act → World → Prop} {a : Act} {w w' : World} {l : List (Nat × Value)} {ops : Array Oper} {rest : List Oper}
variable {d ty t e xt yt : Nat} {p : String} {af : Array Edge} {x y : Operand} {v : Value} {k : IntKind} {n base sz by_ b off : Nat} {cs ws : List Value} {zv : Value} {r : Int}
theorem run_peq (q : Option Addr) (ht : P.underlying xt = some (.pointer (P.pointee xt))) (hx : (putsL a l).eval x = .pointer q) (hy : (putsL a l).eval y = .pointer none) :
    (execOp (putsL a l).eval (⟨some d, .binOp .eql xt x y yt, ty, p, af, none⟩ : Oper)).run P w = .ok (.value (.bool q.isNone)) w := by
  have h1 := run_eql_pointer_nil (P := P) (w := w) xt q ht
  have hg : (eqGuard .eql xt x y (Value.pointer q) (Value.pointer none)).run P w = .ok () w := by simp [eqGuard]
  simp only [execOp, hx, hy]
  simp [h1, hg]
theorem op_peq_some (ht : P.underlying xt = some (.pointer (P.pointee xt))) (hx : (putsL a l).eval x = ptr b off) (hy : (putsL a l).eval y = .pointer none) (h : wpList P ops Q rest (putsL a ((d, .bool false) :: l)) w) :
    wpList P ops Q (⟨some d, .binOp .eql xt x y yt, ty, p, af, none⟩ :: rest) (putsL a l) w := op_gen rfl (run_peq (some ⟨b, off, none⟩) ht hx hy) h
theorem op_peq_none (ht : P.underlying xt = some (.pointer (P.pointee xt))) (hx : (putsL a l).eval x = .pointer none) (hy : (putsL a l).eval y = .pointer none) (h : wpList P ops Q rest (putsL a ((d, .bool true) :: l)) w) :
    wpList P ops Q (⟨some d, .binOp .eql xt x y yt, ty, p, af, none⟩ :: rest) (putsL a l) w := op_gen rfl (run_peq none ht hx hy) h
/-- A list from its element k on. -/
def cutV (v : Value) (k : Nat) : Value := match v with | .slice ad n c => .slice (if c = k then ad else ad.map (·.add k)) (n - k) (c - k) | x => x
theorem op_slice_cut {lo : Operand} {k : Nat} {kk : IntKind} (T : SlT P t e zv 1 by_) (hx : (putsL a l).eval x = v) (O : Own w base e 1 v n cs) (hl : (putsL a l).eval lo = .int kk r) (hr : r = (k : Int)) (hk : k ≤ n) (h : wpList P ops Q rest (putsL a ((d, cutV v k) :: l)) w) :
    wpList P ops Q (⟨some d, .slice t x (some lo) none none, ty, p, af, none⟩ :: rest) (putsL a l) w := by
  obtain ⟨inf, hi, hz0, hz1, hz2⟩ := info_parts T.info
  subst hr
  have R := O.rdw
  obtain ⟨hl0, ad, c, rfl, hnc, hcm, _⟩ := R
  have e1 : ¬ ((n : Int) < (k : Int)) := by omega
  have e2 : ¬ ((c : Int) < (n : Int)) := by omega
  have e3 : ¬ n < k := by omega
  have e4 : ¬ c < n := by omega
  refine op_gen (v := .slice (if c = k then ad else ad.map (·.add k)) (n - k) (c - k)) rfl ?_ h
  by_cases hck : c = k
  · subst hck
    have : n = c := by omega
    subst this
    simp [execOp, hx, hl, Instr.sliceAt, Instr.slice, run_underlying T.und, Instr.sliceBounds, Instr.sliceBound, asIntOf, sizeOf, typeInfo, hi, hz1]
  · simp [execOp, hx, hl, Instr.sliceAt, Instr.slice, run_underlying T.und, Instr.sliceBounds, Instr.sliceBound, asIntOf, sizeOf, typeInfo, hi, hz1, hk, hnc, hck]
/-- a list copied into one's own list from a place on -/
theorem op_copy_cut {dT sT : Nat} {by2 k m L B : Nat} {u : Value} (TT : SlT P dT e zv 1 by2) (hx : (putsL a l).eval x = cutV v k) (O : Own w base e 1 v n cs) (hy : (putsL a l).eval y = u) (R : RdC w L B 1 u m ws) (h1 : ws.all Value.oneCell' = true) (hm : k + m ≤ n)
    (h : ∀ w', Own w' base e 1 v n (cs.take k ++ ws ++ cs.drop (k + m)) → w.grownBy w' v.ownBlock → wpList P ops Q rest (putsL a ((d, .int .i64 (m : Int)) :: l)) w') :
    wpList P ops Q (⟨some d, .call ⟨.builtin .copy, #[x, y], #[dT, sT]⟩, ty, p, af, none⟩ :: rest) (putsL a l) w := by
  obtain ⟨i, hi, hz0, hz1, hz2⟩ := info_parts TT.info
  have hsz : (P.info? e).map (·.size) = some 1 := by simp [hi, hz1]
  obtain ⟨hl, ad, cc, rfl, hnc, _, hr⟩ := R
  rw [Nat.mul_one] at hl
  have zero : m = 0 → ∀ ad2 n2 c2, (Builtin.copy_ #[dT, sT] ty #[.slice ad2 n2 c2, .slice ad m cc]).run P w = .ok (goInt 0) w := by
    intro hm0 ad2 n2 c2
    subst hm0
    cases ad <;> cases ad2 <;> simp [Builtin.copy_, run_underlying TT.und, Builtin.lenOf, Builtin.firstCells, sizeOf, typeInfo, hi, storeCells, loadCells, loadCellsFrom]
  by_cases hm0 : m = 0
  · have hws : ws = [] := List.eq_nil_of_length_eq_zero (by omega)
    obtain ⟨hl0, ad0, c0, rfl, _⟩ := O.rdw
    refine op_gen (v := .int .i64 (m : Int)) (w' := w) rfl ?_ (h w (by subst hws; subst hm0; simpa using O) ⟨rfl, rfl, rfl, Nat.le_refl _, fun _ _ _ => rfl⟩)
    have hx2 : (putsL a l).eval x = .slice (if c0 = k then ad0 else ad0.map (·.add k)) (n - k) (c0 - k) := hx
    simp only [execOp, hx2, hy, resolve, invoke, builtin, Sem.run_bind, Sem.run_pure, Result.andThen_ok, List.map_toArray, List.map_cons, List.map_nil, zero hm0 _ _]
    subst hm0; rfl
  · have O' := O
    obtain ⟨hl0, ⟨rfl, rfl⟩ | ⟨g, off, cap, cur, fr, rfl, hb, hg, hf, hnc2, hcm, hfit, htk⟩⟩ := O
    · omega
    · have hkc : ¬ cap = k := by omega
      rcases hr with rfl | ⟨b2, off2, rfl, _, _, hc⟩
      · simp at hl; omega
      · obtain ⟨g1, g2, g3⟩ := own_setCells (n' := 0) O' (q := k) (vs := ws) (by omega) h1
        have hrun := run_copy_cells (P := P) w dT sT ty e g (off + k) (n - k) (cap - k) ⟨b2, off2, none⟩ m cc ws TT.und hsz (by rw [hl]; exact (Nat.min_eq_left (by omega)).symm)
          (fun j v hv => by rw [Addr.add_lit]; exact hc j v hv) g2 g3 (fun v hv => List.all_eq_true.1 h1 v hv)
        have hx2 : (putsL a l).eval x = .slice (some ⟨g, off + k, none⟩) (n - k) (cap - k) := by rw [hx]; simp [cutV, hkc, Addr.add_lit]
        refine op_gen (v := .int .i64 (m : Int)) (w' := w.setCells g (off + k) ws) rfl ?_ (h _ (by rw [← hl]; exact g1) (grown_setCells w g _ _))
        simp only [execOp, hx2, hy, resolve, invoke, builtin, Sem.run_bind, Sem.run_pure, Result.andThen_ok, List.map_toArray, List.map_cons, List.map_nil, hrun]
        rw [hl]; rfl
end
end Go.Gx

/- Small laws for walks, the twenty-third part: an object of one box and a row of its own; what an operation on it may change. -/
namespace Go.Gx
open Go.RowKit
section
variable {w w' w0 : World} {b p t tp e base base2 e2 sz sz2 n n2 k0 L B : Nat} {v u x vb : Value} {cs ws : List Value} {row : Option Nat}
/-- the block an operation on an object may change: its box as long as it is zero, then its row -/
def pgRow (p n : Nat) (vb : Value) : Option Nat := if n = 0 then some p else vb.ownBlock
def RowOr (u : Value) (row : Option Nat) (k0 : Nat) : Prop := u.ownBlock = row ∨ ∀ k, u.ownBlock = some k → k0 ≤ k
theorem grow_stepP (h : w0.grownBy w row) (E : w.grownBy w' v.ownBlock) (hr : RowOr v row w0.heap.size) : w0.grownBy w' row := by
  rcases hr with hr | hr
  · rw [hr] at E; exact grown_trans h E
  · refine ⟨E.os.trans h.os, E.tape.trans h.tape, E.output.trans h.output, Nat.le_trans h.size E.size, fun k hk hne => ?_⟩
    rw [E.block k (Nat.lt_of_lt_of_le hk h.size) (fun hh => by have := hr k hh.symm; omega)]
    exact h.block k hk hne
theorem RowOr.apart (hr : RowOr u row k0) (ha : ∀ k, row = some k → k < L ∨ B ≤ k) (hB : B ≤ k0) : ∀ k, u.ownBlock = some k → k < L ∨ B ≤ k := by
  intro k hk
  rcases hr with hr | hr
  · rw [hr] at hk; exact ha k hk
  · have := hr k hk; omega
theorem pgRow_some {k : Nat} (h : pgRow p n vb = some k) : k = p ∨ vb.ownBlock = some k := by
  unfold pgRow at h; split at h
  · exact .inl (Option.some.inj h).symm
  · exact .inr h
theorem Bx.ne {ws : List Value} (h : Bx w b t cs) (h2 : Bx w p tp ws) (hne : t ≠ tp) : b ≠ p := by
  rintro rfl
  have := h.symm.trans h2
  simp at this
  exact hne this.2
theorem Own.neB (O : Own w base e sz v n ws) (h : Bx w b t cs) (hne : t ≠ e) : v.ownBlock ≠ some b := by
  rcases O.2 with ⟨rfl, _⟩ | ⟨g, off, cap, cur, fr, rfl, hb, hg, _⟩
  · simp [Value.ownBlock]
  · intro hh
    simp only [Value.ownBlock, Option.some.injEq] at hh
    subst hh
    have := hg.symm.trans h
    simp at this
    exact hne this.2.1.symm
theorem Bx.keepP (h : Bx w b t cs) (hx : Bx w p tp ws) {us : List Value} (O : Own w base e sz vb n us) (E : w.grownBy w' (pgRow p n vb)) (ht : t ≠ tp) (he : t ≠ e) : Bx w' b t cs :=
  h.keep E fun hh => by
    rcases pgRow_some hh.symm with q | q
    · exact h.ne hx ht q
    · exact O.neB h he q
theorem Own.keepP (h : Own w base2 e2 sz2 u n2 cs) (hx : Bx w p tp ws) {us : List Value} (O : Own w base e sz vb n us) (E : w.grownBy w' (pgRow p n vb)) (ht : tp ≠ e2) (he : e2 ≠ e ∨ DJ u vb) : Own w' base2 e2 sz2 u n2 cs := by
  refine ⟨h.1, ?_⟩
  rcases h.2 with hn | ⟨g, off, cap, cur, fr, rfl, hb, hg, r⟩
  · exact .inl hn
  · refine .inr ⟨g, off, cap, cur, fr, rfl, hb, ?_, r⟩
    rw [E.block g (by have := (Array.getElem?_eq_some_iff.1 hg).1; exact this) (fun hh => ?_)]
    · exact hg
    · rcases pgRow_some hh.symm with q | q
      · exact h.neB hx ht (by rw [q]; rfl)
      · rcases he with he | he
        · rcases O.2 with ⟨rfl, _⟩ | ⟨g', off', cap', cur', fr', rfl, hb', hg2, _⟩
          · simp [Value.ownBlock] at q
          · simp only [Value.ownBlock, Option.some.injEq] at q
            subst q
            have := hg.symm.trans hg2
            simp at this
            exact he this.2.1
        · exact he g rfl q
theorem RdC.keepP {sz' : Nat} (h : RdC w L B sz' v n2 cs) (hx : Bx w p tp ws) {us : List Value} (O : Own w base e sz vb n us) (E : w.grownBy w' (pgRow p n vb)) (hp : p < L ∨ B ≤ p) (hb : B ≤ base) : RdC w' L B sz' v n2 cs :=
  h.keep E fun k hk => by
    rcases pgRow_some hk with q | q
    · subst q; exact hp
    · exact .inr (Nat.le_trans hb (O.lt k q).1)
theorem own_apart (O : Own w base e sz v n cs) (h : ∀ k, u.ownBlock = some k → k < base) : u.ownBlock = none ∨ v.ownBlock ≠ u.ownBlock := by
  rcases hu : u.ownBlock with _ | g
  · exact .inl rfl
  · refine .inr fun hh => ?_
    have h1 := (O.lt g hh).1; have h2 := h g hu; omega
theorem DJ.stepP (hr : RowOr u (pgRow p n vb) k0) (hd : DJ x vb) (hx : x.ownBlock ≠ some p) (hl : ∀ k, x.ownBlock = some k → k < k0) : DJ x u := by
  intro k hk hg
  rcases hr with hr | hr
  · rw [hr] at hg
    rcases pgRow_some hg with q | q
    · subst q; exact hx hk
    · exact hd k hk q
  · have := hr k hg; have := hl k hk; omega
theorem grow_stepR (h : w0.grownBy w row) (E : w.grownBy w' (pgRow p n vb)) (hp : w0.heap.size ≤ p) (O : Own w base e sz vb n cs) (hb : w0.heap.size ≤ base) : w0.grownBy w' row :=
  ⟨E.os.trans h.os, E.tape.trans h.tape, E.output.trans h.output, Nat.le_trans h.size E.size, fun k hk hne => by
    rw [E.block k (Nat.lt_of_lt_of_le hk h.size) (fun hh => by
      rcases pgRow_some hh.symm with q | q
      · omega
      · have := (O.lt k q).1; omega)]
    exact h.block k hk hne⟩
theorem below_stepR {B0 : Nat} (h : Below B0 w0 w) (E : w.grownBy w' (pgRow p n vb)) (hB : B0 ≤ w.heap.size) (hp : B0 ≤ p) (O : Own w base e sz vb n cs) (hb : B0 ≤ base) : Below B0 w0 w' :=
  h.grown E hB fun k hk => by
    rcases pgRow_some hk with q | q
    · omega
    · have := (O.lt k q).1; omega
theorem Own.rdx (O : Own w base e sz v n cs) : ∃ L B, RdC w L B sz v n cs ∧ B ≤ w.heap.size ∧ ∀ k, ¬ (k < L ∨ B ≤ k) → v.ownBlock = some k := by
  rcases hv : v.ownBlock with _ | g
  · refine ⟨0, 0, ?_, Nat.zero_le _, fun k hk => absurd (Nat.zero_le k) (fun q => hk (.inr q))⟩
    have := O.rd (B := 0) (by simp [hv])
    exact this.mono (Nat.zero_le _) (Nat.le_refl _)
  · refine ⟨g, g + 1, ?_, (O.lt g hv).2, fun k hk => by have : k = g := by omega
                                                        subst this; rfl⟩
    have O' : Own w g e sz v n cs := by
      refine ⟨O.1, ?_⟩
      rcases O.2 with ⟨rfl, _⟩ | ⟨g2, off, cap, cur, fr, rfl, hb, r⟩
      · simp [Value.ownBlock] at hv
      · simp only [Value.ownBlock, Option.some.injEq] at hv
        subst hv
        exact .inr ⟨g2, off, cap, cur, fr, rfl, Nat.le_refl _, r⟩
    exact O'.rd (B := g + 1) (fun k hk => by rw [hv] at hk; injection hk with hk; omega)
theorem Bx.keepP2 (h : Bx w b t cs) {us : List Value} (O : Own w base e sz vb n us) (E : w.grownBy w' (pgRow p n2 vb)) (hne : b ≠ p) (he : t ≠ e) : Bx w' b t cs :=
  h.keep E fun hh => by
    rcases pgRow_some hh.symm with q | q
    · exact hne q
    · exact O.neB h he q
theorem Bx.keepPn (h : Bx w b t cs) (hx : Bx w p tp ws) (E : w.grownBy w' (pgRow p n vb)) (ht : t ≠ tp) (hn : vb.ownBlock ≠ some b) : Bx w' b t cs :=
  h.keep E fun hh => by
    rcases pgRow_some hh.symm with q | q
    · exact h.ne hx ht q
    · exact hn q
theorem RowOr.ne (hr : RowOr u (pgRow p n vb) k0) (hn : vb.ownBlock ≠ some b) (hp : b ≠ p) (hb : b < k0) : u.ownBlock ≠ some b := by
  intro hh
  rcases hr with hr | hr
  · rw [hr] at hh
    rcases pgRow_some hh with q | q
    · exact hp q
    · exact hn q
  · have := hr b hh; omega
theorem pg_apart (hax : ∀ k, ¬ (k < L ∨ B ≤ k) → v.ownBlock = some k) (hp : v.ownBlock ≠ some p) (hd : DJ v vb) : ∀ q, pgRow p n vb = some q → q < L ∨ B ≤ q := fun q hq =>
  Classical.byContradiction fun hn => by
    have h1 := hax q hn
    rcases pgRow_some hq with h | h
    · subst h; exact hp h1
    · exact hd q h1 h
theorem lit_apart (hp : b ≠ p) (hn : vb.ownBlock ≠ some b) : ∀ q, pgRow p n vb = some q → q < b ∨ b + 1 ≤ q := fun q hq => by
  rcases pgRow_some hq with h | h
  · omega
  · have : q ≠ b := fun hh => hn (hh ▸ h)
    omega
theorem dj_nil (x : Value) : DJ x (.slice none 0 0) := fun _ _ hg => (by cases hg)
theorem ne_nil (b : Nat) : (Value.slice none 0 0).ownBlock ≠ some b := fun hg => (by cases hg)
structure IsSl (u : Value) : Prop where sl : ∃ ad n c, u = .slice ad n c
def chQ (m : Nat) : PhiC := fun c v u _ => m < c ∧ (c = m + 1 → u = v) ∧ IsSl u
theorem StK.chq {n m : Nat} {L : List PhiC} (h' : StK n L) : StK n (chQ m :: L) := ⟨⟨fun _ _ _ _ _ _ h => h, fun c v v' u w1 w2 _ _ h => ⟨by have := h.1; omega, fun hc => by have := h.1; omega, h.2.2⟩⟩, h'⟩
theorem chQ_now {m : Nat} (h : IsSl v) : chQ m (m + 1) v v w := ⟨Nat.lt_succ_self m, fun _ => rfl, h⟩
end
end Go.Gx

/- What a page's bytes are, plainly. -/
namespace Go.Proofs.Ytdhpalioifjfbaa
open Go.Gx Go.RowKit
abbrev By := List UInt8
def numB (b : By) (k : Nat) : Nat := (b.getD k 0).toNat * 256 + (b.getD (k + 1) 0).toNat
def setB (b : By) (k n : Nat) : By := (b.set k (UInt8.ofNat (n / 2 ^ 8))).set (k + 1) (UInt8.ofNat n)
theorem setB_len (b : By) (k n : Nat) : (setB b k n).length = b.length := by simp [setB]
theorem getD_set_same {b : By} {k : Nat} {c : UInt8} (h : k < b.length) : (b.set k c).getD k 0 = c := by simp [h]
theorem getD_set_other {b : By} {k j : Nat} {c : UInt8} (h : k ≠ j) : (b.set k c).getD j 0 = b.getD j 0 := by simp [List.getD_eq_getElem?_getD, h]
theorem numB_lt (b : By) (k : Nat) : numB b k < 65536 := by
  have h1 := (b.getD k 0).toNat_lt; have h2 := (b.getD (k + 1) 0).toNat_lt; unfold numB; omega
theorem numB_set {b : By} {k n : Nat} (h : k + 1 < b.length) (hn : n < 65536) : numB (setB b k n) k = n := by
  unfold numB setB
  rw [getD_set_other (by omega), getD_set_same (by omega), getD_set_same (by simp; omega), UInt8.toNat_ofNat', UInt8.toNat_ofNat']
  omega
theorem getD_setB {b : By} {k j n : Nat} (h : j ≠ k ∧ j ≠ k + 1) : (setB b k n).getD j 0 = b.getD j 0 := by
  unfold setB; rw [getD_set_other (by omega), getD_set_other (by omega)]
theorem numB_other {b : By} {k j n : Nat} (h : j + 1 < k ∨ k + 1 < j) : numB (setB b k n) j = numB b j := by
  unfold numB; rw [getD_setB (by omega), getD_setB (by omega)]
theorem set_u8 {l : By} {i : Nat} {c : UInt8} (h : i < l.length) : (l.map u8v).take i ++ [Value.int .u8 (c.toNat : Int)] ++ (l.map u8v).drop (i + 1) = (l.set i c).map u8v := by
  rw [List.set_eq_take_append_cons_drop, if_pos h]; simp [u8v, List.map_take, List.map_drop]
theorem shl8i {x : Int} (h : 0 ≤ x ∧ x < 65536) : IntKind.i64.wrap (x * 2 ^ (min (8 : Int).toNat (IntKind.bits .i64))) = x * 256 := by
  have : (min (8 : Int).toNat (IntKind.bits .i64)) = 8 := by decide
  rw [this]
  exact wrap_i64 (by omega)
theorem or8i {x c : Nat} (hx : x < 256) (hc : c < 256) : bits .or .i64 ((x : Int) * 256) (c : Int) = ((x * 256 + c : Nat) : Int) := by
  have e1 : BitVec.ofInt 64 ((x : Int) * 256) = BitVec.ofNat 64 (x * 256) := by
    rw [show ((x : Int) * 256) = ((x * 256 : Nat) : Int) from by simp]; exact BitVec.ofInt_natCast ..
  have e2 : BitVec.ofInt 64 (c : Int) = BitVec.ofNat 64 c := BitVec.ofInt_natCast ..
  have h : (BitVec.ofNat 64 (x * 256) ||| BitVec.ofNat 64 c).toNat = x * 256 + c := by
    rw [BitVec.toNat_or, BitVec.toNat_ofNat, BitVec.toNat_ofNat, Nat.mod_eq_of_lt (by omega), Nat.mod_eq_of_lt (by omega), show x * 256 = 2 ^ 8 * x by omega, ← Nat.two_pow_add_eq_or_of_lt (by omega)]
  show IntKind.i64.wrap ((BitVec.ofInt 64 ((x : Int) * 256) ||| BitVec.ofInt 64 (c : Int)).toNat : Int) = _
  rw [e1, e2, h]
  exact wrap_i64 (by omega)
theorem zeros_u8 (n : Nat) : List.replicate n (Value.int .u8 0) = (List.replicate n (0 : UInt8)).map u8v := by simp [u8v]
/-- bytes copied into a row from a place on -/
def cpB (b : By) (k : Nat) (r : By) : By := b.take k ++ r ++ b.drop (k + r.length)
theorem cp_len {b r : By} {k : Nat} (h : k + r.length ≤ b.length) : (cpB b k r).length = b.length := by simp [cpB]; omega
theorem cp_out {b r : By} {k j : Nat} (h : k + r.length ≤ b.length) (hj : j < k ∨ k + r.length ≤ j) : (cpB b k r).getD j 0 = b.getD j 0 := by
  unfold cpB
  simp only [List.getD_eq_getElem?_getD, List.getElem?_append, List.getElem?_take, List.getElem?_drop, List.length_append, List.length_take]
  rcases hj with hj | hj
  · rw [if_pos (by omega), if_pos (by omega), if_pos hj]
  · rw [if_neg (by omega)]; congr 2; omega
theorem cp_in {b r : By} {k j : Nat} (h : k + r.length ≤ b.length) (hj : j < r.length) : (cpB b k r).getD (k + j) 0 = r.getD j 0 := by
  unfold cpB
  simp only [List.getD_eq_getElem?_getD, List.getElem?_append, List.length_append, List.length_take]
  rw [if_pos (by omega), if_neg (by omega)]; congr 2; omega
theorem numB_cp {b r : By} {k j : Nat} (h : k + r.length ≤ b.length) (hj : j + 1 < k) : numB (cpB b k r) j = numB b j := by
  unfold numB; rw [cp_out h (by omega), cp_out h (by omega)]
/-- the records: [] where there is none -/
def sumL (L : List By) : Nat := (L.map List.length).sum
theorem sumL_app (L M : List By) : sumL (L ++ M) = sumL L + sumL M := by simp [sumL]
theorem sumL_one (r : By) : sumL [r] = r.length := by simp [sumL]
theorem sumL_take_le (L : List By) (m : Nat) : sumL (L.take m) ≤ sumL L := by
  have := sumL_app (L.take m) (L.drop m); rw [List.take_append_drop] at this; omega
theorem take_snoc {L : List By} {i : Nat} (h : i < L.length) : L.take (i + 1) = L.take i ++ [L.getD i []] := by
  rw [List.take_add_one]; simp [List.getD_eq_getElem?_getD, h]
theorem sumL_step {L : List By} {i : Nat} (h : i < L.length) : sumL (L.take (i + 1)) = sumL (L.take i) + (L.getD i []).length := by
  rw [take_snoc h, sumL_app, sumL_one]
theorem sumL_set {L : List By} {i : Nat} {r : By} (h : i < L.length) : sumL (L.set i r) + (L.getD i []).length = sumL L + r.length := by
  have e : L = L.take i ++ [L.getD i []] ++ L.drop (i + 1) := by rw [← take_snoc h, List.take_append_drop]
  have e2 : L.set i r = L.take i ++ [r] ++ L.drop (i + 1) := by rw [List.set_eq_take_append_cons_drop, if_pos h]; simp
  have h1 : sumL L = sumL (L.take i) + (L.getD i []).length + sumL (L.drop (i + 1)) := by
    have := congrArg sumL e; rw [sumL_app, sumL_app, sumL_one] at this; exact this
  rw [e2, sumL_app, sumL_app, sumL_one]; omega
theorem getD_le_sum {L : List By} {i : Nat} (h : i < L.length) : (L.getD i []).length ≤ sumL L := by
  have := sumL_step h; have := sumL_take_le L (i + 1); omega
def recAt (b : By) (s : Nat) (r : By) (low : Nat) : Prop :=
  numB b (8 + s * 4 + 2) = r.length ∧ numB b (8 + s * 4) + r.length ≤ 256 ∧ (r ≠ [] → low ≤ numB b (8 + s * 4)) ∧ ∀ j, j < r.length → b.getD (numB b (8 + s * 4) + j) 0 = r.getD j 0
structure Rep (b : By) (L : List By) : Prop where
  len : b.length = 256
  many : numB b 0 = L.length
  fit : 8 + L.length * 4 ≤ numB b 2
  low : numB b 2 ≤ 256
  sum : sumL L + numB b 2 ≤ 256
  recs : ∀ s, s < L.length → recAt b s (L.getD s []) (numB b 2)
/-- how long a slot's record is -/
def sizeL (L : List By) (s : Int) : Nat := if s < 0 ∨ (L.length : Int) ≤ s then 0 else (L.getD s.toNat []).length
theorem sizeL_in {L : List By} {s : Nat} (h : s < L.length) : sizeL L (s : Int) = (L.getD s []).length := by unfold sizeL; rw [if_neg (by omega)]; rfl
theorem sizeL_out {L : List By} {s : Int} (h : s < 0 ∨ (L.length : Int) ≤ s) : sizeL L s = 0 := if_pos h
theorem sizeL_nat {L : List By} {s : Int} (h : sizeL L s ≠ 0) : 0 ≤ s ∧ s < (L.length : Int) := by
  unfold sizeL at h; split at h <;> omega
theorem Rep.size {b : By} {L : List By} (h : Rep b L) {s : Nat} (hs : s < L.length) : numB b (8 + s * 4 + 2) = (L.getD s []).length := (h.recs s hs).1
theorem Rep.fits {b : By} {L : List By} (h : Rep b L) : L.length ≤ 62 := by have := h.fit; have := h.low; omega
theorem recAt.frame {b b' : By} {s low low' : Nat} {r : By} (h : recAt b s r low) (h1 : numB b' (8 + s * 4) = numB b (8 + s * 4)) (h2 : numB b' (8 + s * 4 + 2) = numB b (8 + s * 4 + 2)) (hl : low' ≤ low)
    (h3 : r ≠ [] → ∀ j, low ≤ j → b'.getD j 0 = b.getD j 0) : recAt b' s r low' := by
  obtain ⟨q1, q2, q3, q4⟩ := h
  refine ⟨h2.trans q1, by rw [h1]; exact q2, fun hr => by have := q3 hr; omega, fun j hj => ?_⟩
  have hr : r ≠ [] := fun hh => by subst hh; simp at hj
  rw [h1, h3 hr _ (by have := q3 hr; omega)]
  exact q4 j hj
theorem Rep.get {b : By} {L : List By} (h : Rep b L) {s : Nat} (hs : s < L.length) : (b.drop (numB b (8 + s * 4))).take (L.getD s []).length = L.getD s [] := by
  obtain ⟨q1, q2, q3, q4⟩ := h.recs s hs
  have := h.len
  generalize L.getD s [] = r at q1 q2 q3 q4 ⊢
  refine List.ext_getElem (by simp; omega) fun j h1 h2 => ?_
  have := q4 j h2
  simp only [List.getD_eq_getElem?_getD] at this
  rw [List.getElem?_eq_getElem (by omega), List.getElem?_eq_getElem h2] at this
  simpa using this
theorem sizeL_le {b : By} {L : List By} (h : Rep b L) (s : Int) : sizeL L s ≤ 256 := by
  unfold sizeL; split
  · omega
  · have := getD_le_sum (L := L) (i := s.toNat) (by omega); have := h.sum; omega
def ptsB (b : By) (s at_ n : Nat) : By := setB (setB b (8 + s * 4) at_) (8 + s * 4 + 2) n
theorem pts_len (b : By) (s at_ n : Nat) : (ptsB b s at_ n).length = b.length := by simp [ptsB, setB_len]
theorem pts_at {b : By} {s at_ n : Nat} (h : 8 + s * 4 + 3 < b.length) (ha : at_ < 65536) : numB (ptsB b s at_ n) (8 + s * 4) = at_ := by
  unfold ptsB; rw [numB_other (by omega), numB_set (by omega) ha]
theorem pts_size {b : By} {s at_ n : Nat} (h : 8 + s * 4 + 3 < b.length) (hn : n < 65536) : numB (ptsB b s at_ n) (8 + s * 4 + 2) = n := by
  unfold ptsB; rw [numB_set (by simp only [setB_len]; omega) hn]
theorem pts_num {b : By} {s at_ n j : Nat} (h : j + 1 < 8 + s * 4 ∨ 8 + s * 4 + 3 < j) : numB (ptsB b s at_ n) j = numB b j := by
  unfold ptsB; rw [numB_other (by omega), numB_other (by omega)]
theorem pts_get {b : By} {s at_ n j : Nat} (h : j < 8 + s * 4 ∨ 8 + s * 4 + 3 < j) : (ptsB b s at_ n).getD j 0 = b.getD j 0 := by
  unfold ptsB; rw [getD_setB (by omega), getD_setB (by omega)]
/-- a slot is emptied -/
theorem Rep.empty {b : By} {L : List By} (h : Rep b L) {k : Nat} (hk : k < L.length) : Rep (ptsB b k 0 0) (L.set k []) := by
  have hl := h.len; have hf := h.fit; have hw := h.low; have hs := sumL_set (r := []) hk
  simp only [List.length_nil] at hs
  have e2 : numB (ptsB b k 0 0) 2 = numB b 2 := pts_num (by omega)
  refine ⟨by rw [pts_len, hl], by rw [pts_num (by omega), h.many]; simp, by rw [e2]; simpa using hf, by rw [e2]; exact hw, by rw [e2]; have := h.sum; omega, fun s hs' => ?_⟩
  have hs2 : s < L.length := by simpa using hs'
  rw [e2]
  by_cases hsk : s = k
  · subst hsk
    have : (L.set s []).getD s [] = [] := by simp [hs2]
    rw [this]
    exact ⟨pts_size (by omega) (by omega), by rw [pts_at (by omega) (by omega)]; simp, fun hh => absurd rfl hh, fun j hj => by simp at hj⟩
  · have : (L.set k []).getD s [] = L.getD s [] := by simp [List.getD_eq_getElem?_getD, List.getElem?_set, Ne.symm hsk]
    rw [this]
    exact (h.recs s hs2).frame (pts_num (by omega)) (pts_num (by omega)) (Nat.le_refl _) fun _ j hj => pts_get (by omega)
/-- slots at the end are cut off -/
theorem Rep.cut {b : By} {L : List By} (h : Rep b L) {m : Nat} (hm : m ≤ L.length) : Rep (setB b 0 m) (L.take m) := by
  have hl := h.len; have hf := h.fit; have hw := h.low; have hs := sumL_take_le L m; have hsu := h.sum
  have e2 : numB (setB b 0 m) 2 = numB b 2 := numB_other (by omega)
  have elen : (L.take m).length = m := by simp; omega
  refine ⟨by rw [setB_len, hl], by rw [numB_set (by omega) (by omega), elen], by rw [e2, elen]; omega, by rw [e2]; exact hw, by rw [e2]; omega, fun s hs' => ?_⟩
  rw [elen] at hs'
  have : (L.take m).getD s [] = L.getD s [] := by simp [List.getD_eq_getElem?_getD, List.getElem?_take, hs']
  rw [e2, this]
  exact (h.recs s (by omega)).frame (numB_other (by omega)) (numB_other (by omega)) (Nat.le_refl _) fun _ j hj => getD_setB (by omega)
/-- a record is laid -/
def layL (L : List By) (k : Nat) (r : By) : List By := if k < L.length then L.set k r else L ++ [r]
theorem layL_len {L : List By} {k : Nat} {r : By} (h : k ≤ L.length) : (layL L k r).length = max L.length (k + 1) := by
  unfold layL; split <;> simp <;> omega
theorem layL_get {L : List By} {k : Nat} {r : By} (h : k ≤ L.length) : (layL L k r).getD k [] = r := by
  unfold layL; split
  · rename_i hk; simp [hk]
  · have : k = L.length := by omega
    subst this; simp
theorem layL_other {L : List By} {k s : Nat} {r : By} (h : k ≤ L.length) (hs : s ≠ k) : (layL L k r).getD s [] = L.getD s [] := by
  unfold layL; split
  · simp [List.getD_eq_getElem?_getD, List.getElem?_set, Ne.symm hs]
  · have : k = L.length := by omega
    subst this
    rcases Nat.lt_or_gt_of_ne hs with q | q
    · simp [List.getD_eq_getElem?_getD, List.getElem?_append, q]
    · simp [List.getD_eq_getElem?_getD, List.getElem?_append, show ¬ s < L.length by omega, show L.length ≤ s by omega, show s - L.length ≠ 0 by omega]
theorem layL_sum {L : List By} {k : Nat} {r : By} (h : k ≤ L.length) (he : L.getD k [] = []) : sumL (layL L k r) = sumL L + r.length := by
  unfold layL; split
  · rename_i hk; have := sumL_set (r := r) hk; rw [he] at this; simpa using this
  · rw [sumL_app, sumL_one]
def lay1 (b : By) (k : Nat) : By := if numB b 0 ≤ k then setB b 0 (k + 1) else b
def layB (b : By) (k : Nat) (r : By) : By := setB (ptsB (cpB (lay1 b k) (numB (lay1 b k) 2 - r.length) r) k (numB (lay1 b k) 2 - r.length) r.length) 2 (numB (lay1 b k) 2 - r.length)
theorem Rep.lay {b : By} {L : List By} (h : Rep b L) {k : Nat} {r : By} (hk : k ≤ L.length) (he : L.getD k [] = []) (hr : 8 + (max L.length (k + 1)) * 4 + r.length ≤ numB b 2) : Rep (layB b k r) (layL L k r) := by
  have hl := h.len; have hf := h.fit; have hw := h.low; have hsum := h.sum; have hm := h.many; have hll := layL_len (r := r) hk
  have key : ∀ b1 : By, b1.length = 256 → numB b1 0 = (layL L k r).length → numB b1 2 = numB b 2 → (∀ j, 2 ≤ j → b1.getD j 0 = b.getD j 0) →
      Rep (setB (ptsB (cpB b1 (numB b1 2 - r.length) r) k (numB b1 2 - r.length) r.length) 2 (numB b1 2 - r.length)) (layL L k r) := by
    intro b1 l1 m1 n1 g1
    rw [n1]
    generalize hlo : numB b 2 - r.length = low
    have hc : low + r.length ≤ b1.length := by omega
    have e2 : numB (setB (ptsB (cpB b1 low r) k low r.length) 2 low) 2 = low := numB_set (by rw [pts_len, cp_len hc]; omega) (by omega)
    have en : ∀ j, 4 ≤ j → numB (setB (ptsB (cpB b1 low r) k low r.length) 2 low) j = numB (ptsB (cpB b1 low r) k low r.length) j := fun j hj => numB_other (by omega)
    refine ⟨by rw [setB_len, pts_len, cp_len hc, l1], by rw [numB_other (by omega), pts_num (by omega), numB_cp hc (by omega), m1], by rw [e2, hll]; omega, by rw [e2]; omega, by rw [e2, layL_sum hk he]; omega, fun s hs => ?_⟩
    rw [e2]
    by_cases hsk : s = k
    · subst hsk
      have e3 : numB (setB (ptsB (cpB b1 low r) s low r.length) 2 low) (8 + s * 4) = low := by rw [en _ (by omega), pts_at (by rw [cp_len hc]; omega) (by omega)]
      rw [layL_get hk]
      refine ⟨by rw [en _ (by omega), pts_size (by rw [cp_len hc]; omega) (by omega)], by rw [e3]; omega, fun _ => by rw [e3]; exact Nat.le_refl _, fun j hj => ?_⟩
      rw [e3, getD_setB (by omega), pts_get (by omega), cp_in hc hj]
    · have hsl : s < L.length := by
        rw [hll] at hs; omega
      rw [layL_other hk hsk]
      have q : ∀ t, 8 ≤ t → t + 1 < low → (t + 1 < 8 + k * 4 ∨ 8 + k * 4 + 3 < t) → numB (setB (ptsB (cpB b1 low r) k low r.length) 2 low) t = numB b t := fun t ht1 ht2 ht => by
        rw [en _ (by omega), pts_num ht, numB_cp hc ht2]; unfold numB; rw [g1 _ (by omega), g1 _ (by omega)]
      refine (h.recs s hsl).frame (q _ (by omega) (by omega) (by omega)) (q _ (by omega) (by omega) (by omega)) (by omega) fun _ j hj => ?_
      rw [getD_setB (by omega), pts_get (by omega), cp_out hc (by omega), g1 _ (by omega)]
  unfold layB lay1
  by_cases hnk : numB b 0 ≤ k
  · simp only [hnk, if_true]
    refine key _ (by rw [setB_len, hl]) ?_ (numB_other (by omega)) fun j hj => getD_setB (by omega)
    rw [numB_set (by omega) (by omega), hll]; omega
  · simp only [hnk, if_false]
    exact key _ hl (by rw [hm, hll]; omega) rfl fun j hj => rfl
/-- packing, part by part -/
structure Pk (b : By) (L : List By) (i low : Nat) : Prop where
  len : b.length = 256
  many : numB b 0 = L.length
  sum : low + sumL (L.take i) = 256
  recs : ∀ s, s < i → recAt b s (L.getD s []) low
theorem Pk.start {b : By} {L : List By} (h : Rep b L) : Pk b L 0 256 := ⟨h.len, h.many, by simp [sumL], fun s hs => absurd hs (Nat.not_lt_zero _)⟩
theorem Pk.step {b : By} {L : List By} {i low : Nat} (h : Pk b L i low) (hfit : 8 + L.length * 4 + sumL L ≤ 256) (hi : i < L.length) :
    Pk (ptsB (cpB b (low - (L.getD i []).length) (L.getD i [])) i (low - (L.getD i []).length) (L.getD i []).length) L (i + 1) (low - (L.getD i []).length) := by
  have hs := sumL_step hi; have ht := sumL_take_le L (i + 1); have h0 := h.sum; have hl := h.len
  generalize hr : L.getD i [] = r at hs ⊢
  generalize hlo : low - r.length = lo
  have hc : lo + r.length ≤ b.length := by omega
  refine ⟨by rw [pts_len, cp_len hc, hl], by rw [pts_num (by omega), numB_cp hc (by omega), h.many], by omega, fun s hsi => ?_⟩
  by_cases hsk : s = i
  · subst hsk
    have e3 : numB (ptsB (cpB b lo r) s lo r.length) (8 + s * 4) = lo := pts_at (by rw [cp_len hc]; omega) (by omega)
    rw [hr]
    refine ⟨pts_size (by rw [cp_len hc]; omega) (by omega), by rw [e3]; omega, fun _ => by rw [e3]; exact Nat.le_refl _, fun j hj => ?_⟩
    rw [e3, pts_get (by omega), cp_in hc hj]
  · refine (h.recs s (by omega)).frame ?_ ?_ (by omega) fun _ j hj => ?_
    · rw [pts_num (by omega), numB_cp hc (by omega)]
    · rw [pts_num (by omega), numB_cp hc (by omega)]
    · rw [pts_get (by omega), cp_out hc (by omega)]
theorem Pk.last {b : By} {L : List By} {low : Nat} (h : Pk b L L.length low) (hfit : 8 + L.length * 4 + sumL L ≤ 256) : Rep (setB b 2 low) L ∧ numB (setB b 2 low) 2 + sumL L = 256 := by
  have h0 := h.sum; rw [List.take_length] at h0
  have hl := h.len
  have e2 : numB (setB b 2 low) 2 = low := numB_set (by omega) (by omega)
  refine ⟨⟨by rw [setB_len, hl], by rw [numB_other (by omega), h.many], by rw [e2]; omega, by rw [e2]; omega, by rw [e2]; omega, fun s hs => ?_⟩, by rw [e2]; exact h0⟩
  rw [e2]
  exact (h.recs s hs).frame (numB_other (by omega)) (numB_other (by omega)) (Nat.le_refl _) fun _ j hj => getD_setB (by omega)
theorem Pk.room {b : By} {L : List By} {i low : Nat} (h : Pk b L i low) (hfit : 8 + L.length * 4 + sumL L ≤ 256) (hi : i < L.length) : 8 + L.length * 4 + (L.getD i []).length ≤ low ∧ low ≤ 256 := by
  have hs := sumL_step hi; have ht := sumL_take_le L (i + 1); have h0 := h.sum; omega
/-- lists of bytes, each a list of one's own -/
abbrev ByV := Value × By
def D0 : ByV := (default, [])
theorem acc_get {acc : List ByV} {L : List By} {m i : Nat} (h : acc.map Prod.snd = L.take m) (hi : i < m) (hm : m ≤ L.length) : (acc.getD i D0).2 = L.getD i [] := by
  have h1 : (acc.map Prod.snd)[i]? = L[i]? := by rw [h, List.getElem?_take, if_pos hi]
  have h2 : i < acc.length := by
    have := congrArg List.length h; simp at this; omega
  simp only [List.getElem?_map, List.getElem?_eq_getElem h2, Option.map_some] at h1
  simp only [List.getD_eq_getElem?_getD, List.getElem?_eq_getElem h2, ← h1]; rfl
theorem acc_len {acc : List ByV} {L : List By} {m : Nat} (h : acc.map Prod.snd = L.take m) (hm : m ≤ L.length) : acc.length = m := by have := congrArg List.length h; simp at this; omega
theorem oall_snoc {w : World} {base e sz : Nat} {acc : List ByV} {v : Value} {r : By} (h : ∀ x9 ∈ acc, Own w base e sz x9.1 x9.2.length (x9.2.map u8v)) (O : Own w base e sz v r.length (r.map u8v)) :
    ∀ x9 ∈ acc ++ [(v, r)], Own w base e sz x9.1 x9.2.length (x9.2.map u8v) := by
  intro x hx
  rcases List.mem_append.1 hx with q | q
  · exact h x q
  · rw [List.mem_singleton.1 q]; exact O
theorem acc_snoc {acc : List ByV} {L : List By} {s : Nat} {v : Value} (h : acc.map Prod.snd = L.take s) (hs : s < L.length) : (acc ++ [(v, L.getD s [])]).map Prod.snd = L.take (s + 1) := by
  rw [take_snoc hs, List.map_append, h]; rfl
/-- a new page -/
def newB : By := setB (List.replicate 256 0) 2 256
theorem Rep.new : Rep newB [] := ⟨by decide +kernel, by decide +kernel, by decide +kernel, by decide +kernel, by decide +kernel, fun s hs => absurd hs (Nat.not_lt_zero _)⟩
/-- a page, zero or laid -/
def Pg (n : Nat) (b : By) (L : List By) (vb : Value) : Prop := (n = 0 ∧ b = [] ∧ L = [] ∧ vb.ownBlock = none) ∨ (n = 256 ∧ Rep b L)
theorem Rep.pg {b : By} {L : List By} {v : Value} (h : Rep b L) : Pg 256 b L v := .inr ⟨rfl, h⟩
theorem Pg.rowOr {n p k0 : Nat} {b : By} {L : List By} {vb : Value} (h : Pg n b L vb) : RowOr vb (pgRow p n vb) k0 := by
  rcases h with ⟨rfl, _, _, hv⟩ | ⟨rfl, _⟩
  · exact .inr fun k hk => by rw [hv] at hk; cases hk
  · exact .inl rfl
theorem Pg.fits {n : Nat} {b : By} {L : List By} {vb : Value} (h : Pg n b L vb) : L.length ≤ 62 ∧ sumL L + 4 * L.length ≤ 248 := by
  rcases h with ⟨_, _, rfl, _⟩ | ⟨_, R⟩
  · decide
  · have h1 := R.fits; have h2 := R.fit; have h3 := R.sum; omega
theorem Pg.zero : Pg 0 [] [] (.slice none 0 0) := .inl ⟨rfl, rfl, rfl, rfl⟩
/-- the lowest slot that has no record -/
def freeL : List By → Nat
  | [] => 0
  | r :: t => if r = [] then 0 else freeL t + 1
theorem freeL_le : ∀ L : List By, freeL L ≤ L.length
  | [] => Nat.le_refl _
  | r :: t => by have := freeL_le t; simp only [freeL, List.length_cons]; split <;> omega
theorem freeL_go : ∀ {L : List By} {j : Nat}, j ≤ freeL L → j < L.length → L.getD j [] ≠ [] → j + 1 ≤ freeL L
  | [], j, _, h2, _ => absurd h2 (Nat.not_lt_zero _)
  | r :: t, 0, _, _, h3 => by simp only [freeL]; rw [if_neg (by simpa using h3)]; omega
  | r :: t, j + 1, h1, h2, h3 => by
    simp only [freeL] at h1 ⊢
    split at h1
    · omega
    · rename_i hr; rw [if_neg hr]
      have := freeL_go (L := t) (j := j) (by omega) (by simpa using h2) (by simpa using h3)
      omega
theorem freeL_stop : ∀ {L : List By} {j : Nat}, j ≤ freeL L → (L.length ≤ j ∨ L.getD j [] = []) → freeL L = j
  | [], j, h1, _ => by simp only [freeL] at h1 ⊢; omega
  | r :: t, 0, _, h2 => by
    rcases h2 with h2 | h2
    · simp at h2
    · simp only [freeL]; rw [if_pos (by simpa using h2)]
  | r :: t, j + 1, h1, h2 => by
    simp only [freeL] at h1 ⊢
    split at h1
    · omega
    · rename_i hr; rw [if_neg hr]
      have := freeL_stop (L := t) (j := j) (by omega) (by rcases h2 with h2 | h2; exact .inl (by simpa using h2); exact .inr (by simpa using h2))
      omega
theorem freeL_get {L : List By} : L.getD (freeL L) [] = [] := by
  by_cases h : freeL L < L.length
  · by_cases h2 : L.getD (freeL L) [] = []
    · exact h2
    · have := freeL_go (Nat.le_refl _) h h2; omega
  · simp [List.getD_eq_getElem?_getD, show L.length ≤ freeL L by omega]
/-- without the empty slots at the end -/
def cutL (L : List By) : List By := (L.reverse.dropWhile (· == [])).reverse
theorem cutL_nil (L : List By) : cutL (L ++ [[]]) = cutL L := by simp [cutL]
theorem cutL_snoc {L : List By} {r : By} (h : r ≠ []) : cutL (L ++ [r]) = L ++ [r] := by simp [cutL, h]
theorem cutL_go {L : List By} {m : Nat} (h : 0 < m) (hm : m ≤ L.length) (he : L.getD (m - 1) [] = []) : cutL (L.take m) = cutL (L.take (m - 1)) := by
  have := take_snoc (L := L) (i := m - 1) (by omega)
  rw [show m - 1 + 1 = m by omega, he] at this
  rw [this, cutL_nil]
theorem cutL_stop {L : List By} {m : Nat} (hm : m ≤ L.length) (he : m = 0 ∨ L.getD (m - 1) [] ≠ []) : cutL (L.take m) = L.take m := by
  rcases Nat.eq_zero_or_pos m with h | h
  · subst h; rfl
  · have := take_snoc (L := L) (i := m - 1) (by omega)
    rw [show m - 1 + 1 = m by omega] at this
    rw [this, cutL_snoc (by rcases he with he | he; omega; exact he)]
/-- the slots that have a record -/
def slotsL (L : List By) : List Nat := (List.range L.length).filter (fun s => (L.getD s []).length != 0)
def slotsN (L : List By) (m : Nat) : List Nat := (List.range m).filter (fun s => (L.getD s []).length != 0)
theorem slotsN_go {L : List By} {m : Nat} (h : (L.getD m []).length ≠ 0) : slotsN L (m + 1) = slotsN L m ++ [m] := by
  simp only [slotsN, List.range_succ, List.filter_append]; rw [List.filter_cons, if_pos (by simpa using h)]; rfl
theorem slotsN_skip {L : List By} {m : Nat} (h : (L.getD m []).length = 0) : slotsN L (m + 1) = slotsN L m := by
  have h2 : L.getD m [] = [] := List.length_eq_zero_iff.1 h
  simp only [slotsN, List.range_succ, List.filter_append]; rw [List.filter_cons]; simp only [h2]; simp
theorem slotsN_len (L : List By) (m : Nat) : (slotsN L m).length ≤ m := by
  have := List.length_filter_le (fun s => (L.getD s []).length != 0) (List.range m); simpa [slotsN] using this
def slotsI (L : List By) (m : Nat) : List Int := (slotsN L m).map (fun s => ((s : Nat) : Int))
theorem slotsI_go {L : List By} {m : Nat} (h : (L.getD m []).length ≠ 0) : slotsI L (m + 1) = slotsI L m ++ [((m : Nat) : Int)] := by simp [slotsI, slotsN_go h]
theorem slotsI_skip {L : List By} {m : Nat} (h : (L.getD m []).length = 0) : slotsI L (m + 1) = slotsI L m := by rw [slotsI, slotsN_skip h]; rfl
theorem slotsI_len (L : List By) (m : Nat) : (slotsI L m).length ≤ m := by simpa [slotsI] using slotsN_len L m
/-- how much room there is, were there m slots -/
def leftL (L : List By) (m : Nat) : Int := 248 - (m : Int) * 4 - (sumL L : Int)
theorem Pg.left {n : Nat} {b : By} {L : List By} {vb : Value} (h : Pg n b L vb) : 0 ≤ leftL L L.length ∧ leftL L L.length ≤ 248 := by have := h.fits; unfold leftL; omega
theorem leftL_rng {b : By} {L : List By} (h : Rep b L) (m : Nat) (hm : m ≤ 1000) : -8000 ≤ leftL L m ∧ leftL L m ≤ 248 := by unfold leftL; have := h.sum; omega
/-- what the operations answer and leave -/
def badB (r : By) : Bool := r.length == 0 || decide (200 < r.length)
theorem badB_t {r : By} (h : r.length = 0 ∨ 200 < r.length) : badB r = true := by unfold badB; rcases h with h | h <;> simp [h]
theorem badB_f {r : By} (h : r.length ≠ 0 ∧ r.length ≤ 200) : badB r = false := by
  unfold badB; rw [decide_eq_false (by omega), Bool.or_false]; exact beq_eq_false_iff_ne.2 h.1
def fullB (L : List By) (r : By) : Bool := decide (leftL L (max L.length (freeL L + 1)) < (r.length : Int))
def putE (L : List By) (r : By) : Int := if badB r then 7 else if fullB L r then 25 else 0
def putK (L : List By) (r : By) : Int := if badB r then 0 else if fullB L r then 0 else (freeL L : Int)
def putN (L : List By) (r : By) : List By := if badB r then L else if fullB L r then L else layL L (freeL L) r
def setE (L : List By) (k : Int) (r : By) : Int := if sizeL L k = 0 then 22 else if badB r then 7 else if leftL L L.length + (sizeL L k : Int) < (r.length : Int) then 25 else 0
def setN (L : List By) (k : Int) (r : By) : List By := if setE L k r = 0 then L.set k.toNat r else L
def dropE (L : List By) (k : Int) : Int := if sizeL L k = 0 then 22 else 0
def dropN (L : List By) (k : Int) : List By := if sizeL L k = 0 then L else cutL (L.set k.toNat [])
def getL (L : List By) (k : Int) : By := if k < 0 ∨ (L.length : Int) ≤ k then [] else L.getD k.toNat []
theorem getL_len (L : List By) (k : Int) : (getL L k).length = sizeL L k := by unfold getL sizeL; split <;> rfl
theorem getL_nil {L : List By} {k : Int} (h : sizeL L k = 0) : getL L k = [] := List.eq_nil_of_length_eq_zero (by rw [getL_len, h])
theorem getL_in {L : List By} {k : Int} (h : sizeL L k ≠ 0) : getL L k = L.getD k.toNat [] := by
  have := sizeL_nat h; unfold getL; rw [if_neg (by omega)]
theorem putK_rng (L : List By) (r : By) : 0 ≤ putK L r ∧ putK L r ≤ (L.length : Int) := by
  have := freeL_le L; unfold putK; (repeat' split) <;> omega
theorem put_bad {L : List By} {r : By} (h : badB r = true) : putE L r = 7 ∧ putK L r = 0 ∧ putN L r = L := by simp [putE, putK, putN, h]
theorem put_full {L : List By} {r : By} (h : badB r = false) (h2 : leftL L (max L.length (freeL L + 1)) < (r.length : Int)) : putE L r = 25 ∧ putK L r = 0 ∧ putN L r = L := by
  have h3 : fullB L r = true := decide_eq_true h2
  simp [putE, putK, putN, h, h3]
theorem put_ok {L : List By} {r : By} (h : badB r = false) (h2 : ¬ leftL L (max L.length (freeL L + 1)) < (r.length : Int)) : putE L r = 0 ∧ putK L r = (freeL L : Int) ∧ putN L r = layL L (freeL L) r := by
  have h3 : fullB L r = false := decide_eq_false h2
  simp [putE, putK, putN, h, h3]
theorem layL_set {L : List By} {k : Nat} {r : By} (h : k < L.length) : layL (L.set k []) k r = L.set k r := by
  unfold layL; rw [if_pos (by simpa using h)]; simp
theorem set_get {L : List By} {k : Nat} (h : k < L.length) : (L.set k []).getD k [] = [] := by simp [h]
theorem one_i64 (l : List Int) : (l.map (Value.int .i64)).all Value.oneCell' = true := by simp [Value.oneCell']
theorem set_none {L : List By} {k : Int} {r : By} (h : sizeL L k = 0) : setE L k r = 22 ∧ setN L k r = L := by
  have : setE L k r = 22 := by unfold setE; rw [if_pos h]
  exact ⟨this, by unfold setN; rw [this]; rfl⟩
theorem set_bad {L : List By} {k : Int} {r : By} (h : sizeL L k ≠ 0) (hb : badB r = true) : setE L k r = 7 ∧ setN L k r = L := by
  have : setE L k r = 7 := by unfold setE; rw [if_neg h, hb]; rfl
  exact ⟨this, by unfold setN; rw [this]; rfl⟩
theorem set_full {L : List By} {k : Int} {r : By} (h : sizeL L k ≠ 0) (hb : badB r = false) (hf : leftL L L.length + (sizeL L k : Int) < (r.length : Int)) : setE L k r = 25 ∧ setN L k r = L := by
  have : setE L k r = 25 := by unfold setE; rw [if_neg h, hb, if_neg (by decide), if_pos hf]
  exact ⟨this, by unfold setN; rw [this]; rfl⟩
theorem set_ok {L : List By} {k : Int} {r : By} (h : sizeL L k ≠ 0) (hb : badB r = false) (hf : ¬ leftL L L.length + (sizeL L k : Int) < (r.length : Int)) : setE L k r = 0 ∧ setN L k r = L.set k.toNat r := by
  have : setE L k r = 0 := by unfold setE; rw [if_neg h, hb, if_neg (by decide), if_neg hf]
  exact ⟨this, by unfold setN; rw [this]; rfl⟩
theorem drop_none {L : List By} {k : Int} (h : sizeL L k = 0) : dropE L k = 22 ∧ dropN L k = L := by unfold dropE dropN; rw [if_pos h, if_pos h]; exact ⟨rfl, rfl⟩
theorem drop_ok {L : List By} {k : Int} (h : sizeL L k ≠ 0) : dropE L k = 0 ∧ dropN L k = cutL (L.set k.toNat []) := by unfold dropE dropN; rw [if_neg h, if_neg h]; exact ⟨rfl, rfl⟩
theorem DJ.fresh {x u : Value} {row : Option Nat} {k0 k1 : Nat} (hr : RowOr u row k0) (h1 : ∀ k, u.ownBlock = some k → k < k1) (h2 : ∀ k, x.ownBlock = some k → k1 ≤ k) : DJ x u := fun k hk hg => by
  have := h1 k hg; have := h2 k hk; omega
end Go.Proofs.Ytdhpalioifjfbaa

/- Closed facts on the types and functions of the translation, laid by a program. -/
namespace Go.Proofs.Ytdhpalioifjfbaa
open Go.Gx

theorem us1 : (Try.prog.underlying 1).isSome = true := by kernel_rfl
theorem one1 : oneT Try.prog 1 = true := by kernel_rfl
theorem size1 : (Try.prog.info? 1).map (·.size) = some 1 := by kernel_rfl
theorem us2 : (Try.prog.underlying 2).isSome = true := by kernel_rfl
theorem one2 : oneT Try.prog 2 = true := by kernel_rfl
theorem size2 : (Try.prog.info? 2).map (·.size) = some 1 := by kernel_rfl
theorem zero2 : zeroT Try.prog 2 = some (Value.int .i64 0) := by kernel_rfl
theorem us3 : (Try.prog.underlying 3).isSome = true := by kernel_rfl
theorem one3 : oneT Try.prog 3 = true := by kernel_rfl
theorem size3 : (Try.prog.info? 3).map (·.size) = some 1 := by kernel_rfl
theorem zero3 : zeroT Try.prog 3 = some (Value.int .i64 0) := by kernel_rfl
theorem us4 : (Try.prog.underlying 4).isSome = true := by kernel_rfl
theorem one4 : oneT Try.prog 4 = true := by kernel_rfl
theorem size4 : (Try.prog.info? 4).map (·.size) = some 1 := by kernel_rfl
theorem zero4 : zeroT Try.prog 4 = some (Value.bool false) := by kernel_rfl
theorem us5 : (Try.prog.underlying 5).isSome = true := by kernel_rfl
theorem one5 : oneT Try.prog 5 = true := by kernel_rfl
theorem size5 : (Try.prog.info? 5).map (·.size) = some 1 := by kernel_rfl
theorem zero5 : zeroT Try.prog 5 = some (Value.int .u8 0) := by kernel_rfl
theorem us6 : (Try.prog.underlying 6).isSome = true := by kernel_rfl
theorem one6 : oneT Try.prog 6 = true := by kernel_rfl
theorem size6 : (Try.prog.info? 6).map (·.size) = some 1 := by kernel_rfl
theorem zero6 : zeroT Try.prog 6 = some (Value.int .u8 0) := by kernel_rfl
theorem us7 : (Try.prog.underlying 7).isSome = true := by kernel_rfl
theorem agg7 : aggT Try.prog 7 = some 4 := by kernel_rfl
theorem fld7_0 : fieldT Try.prog 7 0 = some 0 := by kernel_rfl
theorem fld7_1 : fieldT Try.prog 7 1 = some 1 := by kernel_rfl
theorem fld7_2 : fieldT Try.prog 7 2 = some 2 := by kernel_rfl
theorem fld7_3 : fieldT Try.prog 7 3 = some 3 := by kernel_rfl
theorem size7 : (Try.prog.info? 7).map (·.size) = some 4 := by kernel_rfl
theorem zero7 : zeroT Try.prog 7 = some (Value.agg #[(Value.int .i64 0), (Value.int .i64 0), (Value.bool false), (Value.int .u8 0)]) := by kernel_rfl
theorem us8 : (Try.prog.underlying 8).isSome = true := by kernel_rfl
theorem agg8 : aggT Try.prog 8 = some 4 := by kernel_rfl
theorem fld8_0 : fieldT Try.prog 8 0 = some 0 := by kernel_rfl
theorem fld8_1 : fieldT Try.prog 8 1 = some 1 := by kernel_rfl
theorem fld8_2 : fieldT Try.prog 8 2 = some 2 := by kernel_rfl
theorem fld8_3 : fieldT Try.prog 8 3 = some 3 := by kernel_rfl
theorem size8 : (Try.prog.info? 8).map (·.size) = some 4 := by kernel_rfl
theorem zero8 : zeroT Try.prog 8 = some (Value.agg #[(Value.int .i64 0), (Value.int .i64 0), (Value.bool false), (Value.int .u8 0)]) := by kernel_rfl
theorem us9 : (Try.prog.underlying 9).isSome = true := by kernel_rfl
theorem one9 : oneT Try.prog 9 = true := by kernel_rfl
theorem size9 : (Try.prog.info? 9).map (·.size) = some 1 := by kernel_rfl
theorem zero9 : zeroT Try.prog 9 = some (Value.string (bs [])) := by kernel_rfl
theorem us10 : (Try.prog.underlying 10).isSome = true := by kernel_rfl
theorem one10 : oneT Try.prog 10 = true := by kernel_rfl
theorem size10 : (Try.prog.info? 10).map (·.size) = some 1 := by kernel_rfl
theorem zero10 : zeroT Try.prog 10 = some (Value.string (bs [])) := by kernel_rfl
theorem us11 : (Try.prog.underlying 11).isSome = true := by kernel_rfl
theorem one11 : oneT Try.prog 11 = true := by kernel_rfl
theorem size11 : (Try.prog.info? 11).map (·.size) = some 1 := by kernel_rfl
theorem zero11 : zeroT Try.prog 11 = some (Value.string (bs [])) := by kernel_rfl
theorem us12 : (Try.prog.underlying 12).isSome = true := by kernel_rfl
theorem one12 : oneT Try.prog 12 = true := by kernel_rfl
theorem size12 : (Try.prog.info? 12).map (·.size) = some 1 := by kernel_rfl
theorem zero12 : zeroT Try.prog 12 = some (Value.int .u64 0) := by kernel_rfl
theorem us13 : (Try.prog.underlying 13).isSome = true := by kernel_rfl
theorem agg13 : aggT Try.prog 13 = some 2 := by kernel_rfl
theorem fld13_0 : fieldT Try.prog 13 0 = some 0 := by kernel_rfl
theorem fld13_1 : fieldT Try.prog 13 1 = some 1 := by kernel_rfl
theorem size13 : (Try.prog.info? 13).map (·.size) = some 2 := by kernel_rfl
theorem zero13 : zeroT Try.prog 13 = some (Value.agg #[(Value.string (bs [])), (Value.int .u64 0)]) := by kernel_rfl
theorem us14 : (Try.prog.underlying 14).isSome = true := by kernel_rfl
theorem agg14 : aggT Try.prog 14 = some 2 := by kernel_rfl
theorem fld14_0 : fieldT Try.prog 14 0 = some 0 := by kernel_rfl
theorem fld14_1 : fieldT Try.prog 14 1 = some 1 := by kernel_rfl
theorem size14 : (Try.prog.info? 14).map (·.size) = some 2 := by kernel_rfl
theorem zero14 : zeroT Try.prog 14 = some (Value.agg #[(Value.string (bs [])), (Value.int .u64 0)]) := by kernel_rfl
theorem us15 : (Try.prog.underlying 15).isSome = true := by kernel_rfl
theorem one15 : oneT Try.prog 15 = true := by kernel_rfl
theorem ptrt15 : Try.prog.underlying 15 = some (.pointer (Try.prog.pointee 15)) := by kernel_rfl
theorem size15 : (Try.prog.info? 15).map (·.size) = some 1 := by kernel_rfl
theorem zero15 : zeroT Try.prog 15 = some (Value.pointer none) := by kernel_rfl
theorem us16 : (Try.prog.underlying 16).isSome = true := by kernel_rfl
theorem one16 : oneT Try.prog 16 = true := by kernel_rfl
theorem ptrt16 : Try.prog.underlying 16 = some (.pointer (Try.prog.pointee 16)) := by kernel_rfl
theorem size16 : (Try.prog.info? 16).map (·.size) = some 1 := by kernel_rfl
theorem zero16 : zeroT Try.prog 16 = some (Value.pointer none) := by kernel_rfl
theorem us17 : (Try.prog.underlying 17).isSome = true := by kernel_rfl
theorem one17 : oneT Try.prog 17 = true := by kernel_rfl
theorem ptrt17 : Try.prog.underlying 17 = some (.pointer (Try.prog.pointee 17)) := by kernel_rfl
theorem size17 : (Try.prog.info? 17).map (·.size) = some 1 := by kernel_rfl
theorem zero17 : zeroT Try.prog 17 = some (Value.pointer none) := by kernel_rfl
theorem us18 : (Try.prog.underlying 18).isSome = true := by kernel_rfl
theorem agg18 : aggT Try.prog 18 = some 1 := by kernel_rfl
theorem fld18_0 : fieldT Try.prog 18 0 = some 0 := by kernel_rfl
theorem size18 : (Try.prog.info? 18).map (·.size) = some 1 := by kernel_rfl
theorem zero18 : zeroT Try.prog 18 = some (Value.agg #[(Value.pointer none)]) := by kernel_rfl
theorem us19 : (Try.prog.underlying 19).isSome = true := by kernel_rfl
theorem agg19 : aggT Try.prog 19 = some 1 := by kernel_rfl
theorem fld19_0 : fieldT Try.prog 19 0 = some 0 := by kernel_rfl
theorem size19 : (Try.prog.info? 19).map (·.size) = some 1 := by kernel_rfl
theorem zero19 : zeroT Try.prog 19 = some (Value.agg #[(Value.pointer none)]) := by kernel_rfl
theorem us21 : (Try.prog.underlying 21).isSome = true := by kernel_rfl
theorem one21 : oneT Try.prog 21 = true := by kernel_rfl
theorem size21 : (Try.prog.info? 21).map (·.size) = some 1 := by kernel_rfl
theorem zero21 : zeroT Try.prog 21 = some (Value.int .i32 0) := by kernel_rfl
theorem us22 : (Try.prog.underlying 22).isSome = true := by kernel_rfl
theorem one22 : oneT Try.prog 22 = true := by kernel_rfl
theorem slt22 : SlT Try.prog 22 5 (Value.int .u8 0) 1 1 := ⟨Try.underlying22, by kernel_rfl, rfl, by decide⟩
theorem size22 : (Try.prog.info? 22).map (·.size) = some 1 := by kernel_rfl
theorem zero22 : zeroT Try.prog 22 = some (Value.slice none 0 0) := by kernel_rfl
theorem us23 : (Try.prog.underlying 23).isSome = true := by kernel_rfl
theorem one23 : oneT Try.prog 23 = true := by kernel_rfl
theorem size23 : (Try.prog.info? 23).map (·.size) = some 1 := by kernel_rfl
theorem us24 : (Try.prog.underlying 24).isSome = true := by kernel_rfl
theorem one24 : oneT Try.prog 24 = true := by kernel_rfl
theorem ptrt24 : Try.prog.underlying 24 = some (.pointer (Try.prog.pointee 24)) := by kernel_rfl
theorem size24 : (Try.prog.info? 24).map (·.size) = some 1 := by kernel_rfl
theorem zero24 : zeroT Try.prog 24 = some (Value.pointer none) := by kernel_rfl
theorem us25 : (Try.prog.underlying 25).isSome = true := by kernel_rfl
theorem one25 : oneT Try.prog 25 = true := by kernel_rfl
theorem size25 : (Try.prog.info? 25).map (·.size) = some 1 := by kernel_rfl
theorem us26 : (Try.prog.underlying 26).isSome = true := by kernel_rfl
theorem one26 : oneT Try.prog 26 = true := by kernel_rfl
theorem size26 : (Try.prog.info? 26).map (·.size) = some 1 := by kernel_rfl
theorem zero26 : zeroT Try.prog 26 = some (Value.int .i64 0) := by kernel_rfl
theorem us28 : (Try.prog.underlying 28).isSome = true := by kernel_rfl
theorem one28 : oneT Try.prog 28 = true := by kernel_rfl
theorem size28 : (Try.prog.info? 28).map (·.size) = some 1 := by kernel_rfl
theorem us29 : (Try.prog.underlying 29).isSome = true := by kernel_rfl
theorem one29 : oneT Try.prog 29 = true := by kernel_rfl
theorem slt29 : SlT Try.prog 29 3 (Value.int .i64 0) 1 8 := ⟨Try.underlying29, by kernel_rfl, rfl, by decide⟩
theorem size29 : (Try.prog.info? 29).map (·.size) = some 1 := by kernel_rfl
theorem zero29 : zeroT Try.prog 29 = some (Value.slice none 0 0) := by kernel_rfl
theorem us30 : (Try.prog.underlying 30).isSome = true := by kernel_rfl
theorem one30 : oneT Try.prog 30 = true := by kernel_rfl
theorem size30 : (Try.prog.info? 30).map (·.size) = some 1 := by kernel_rfl
theorem us31 : (Try.prog.underlying 31).isSome = true := by kernel_rfl
theorem one31 : oneT Try.prog 31 = true := by kernel_rfl
theorem size31 : (Try.prog.info? 31).map (·.size) = some 1 := by kernel_rfl
theorem us32 : (Try.prog.underlying 32).isSome = true := by kernel_rfl
theorem one32 : oneT Try.prog 32 = true := by kernel_rfl
theorem size32 : (Try.prog.info? 32).map (·.size) = some 1 := by kernel_rfl
theorem us34 : (Try.prog.underlying 34).isSome = true := by kernel_rfl
theorem one34 : oneT Try.prog 34 = true := by kernel_rfl
theorem size34 : (Try.prog.info? 34).map (·.size) = some 1 := by kernel_rfl
theorem us35 : (Try.prog.underlying 35).isSome = true := by kernel_rfl
theorem one35 : oneT Try.prog 35 = true := by kernel_rfl
theorem size35 : (Try.prog.info? 35).map (·.size) = some 1 := by kernel_rfl
theorem us36 : (Try.prog.underlying 36).isSome = true := by kernel_rfl
theorem one36 : oneT Try.prog 36 = true := by kernel_rfl
theorem slt36 : SlT Try.prog 36 42 (Value.agg #[(Value.int .i64 0), (Value.int .i64 0), (Value.int .i64 0), (Value.int .u8 0)]) 4 32 := ⟨Try.underlying36, by kernel_rfl, rfl, by decide⟩
theorem size36 : (Try.prog.info? 36).map (·.size) = some 1 := by kernel_rfl
theorem zero36 : zeroT Try.prog 36 = some (Value.slice none 0 0) := by kernel_rfl
theorem us37 : (Try.prog.underlying 37).isSome = true := by kernel_rfl
theorem one37 : oneT Try.prog 37 = true := by kernel_rfl
theorem ptrt37 : Try.prog.underlying 37 = some (.pointer (Try.prog.pointee 37)) := by kernel_rfl
theorem size37 : (Try.prog.info? 37).map (·.size) = some 1 := by kernel_rfl
theorem zero37 : zeroT Try.prog 37 = some (Value.pointer none) := by kernel_rfl
theorem us38 : (Try.prog.underlying 38).isSome = true := by kernel_rfl
theorem one38 : oneT Try.prog 38 = true := by kernel_rfl
theorem slt38 : SlT Try.prog 38 22 (Value.slice none 0 0) 1 24 := ⟨Try.underlying38, by kernel_rfl, rfl, by decide⟩
theorem size38 : (Try.prog.info? 38).map (·.size) = some 1 := by kernel_rfl
theorem zero38 : zeroT Try.prog 38 = some (Value.slice none 0 0) := by kernel_rfl
theorem us39 : (Try.prog.underlying 39).isSome = true := by kernel_rfl
theorem agg39 : aggT Try.prog 39 = some 1 := by kernel_rfl
theorem fld39_0 : fieldT Try.prog 39 0 = some 0 := by kernel_rfl
theorem size39 : (Try.prog.info? 39).map (·.size) = some 1 := by kernel_rfl
theorem zero39 : zeroT Try.prog 39 = some (Value.agg #[(Value.slice none 0 0)]) := by kernel_rfl
theorem us40 : (Try.prog.underlying 40).isSome = true := by kernel_rfl
theorem agg40 : aggT Try.prog 40 = some 1 := by kernel_rfl
theorem fld40_0 : fieldT Try.prog 40 0 = some 0 := by kernel_rfl
theorem size40 : (Try.prog.info? 40).map (·.size) = some 1 := by kernel_rfl
theorem zero40 : zeroT Try.prog 40 = some (Value.agg #[(Value.slice none 0 0)]) := by kernel_rfl
theorem us41 : (Try.prog.underlying 41).isSome = true := by kernel_rfl
theorem agg41 : aggT Try.prog 41 = some 4 := by kernel_rfl
theorem fld41_0 : fieldT Try.prog 41 0 = some 0 := by kernel_rfl
theorem fld41_1 : fieldT Try.prog 41 1 = some 1 := by kernel_rfl
theorem fld41_2 : fieldT Try.prog 41 2 = some 2 := by kernel_rfl
theorem fld41_3 : fieldT Try.prog 41 3 = some 3 := by kernel_rfl
theorem size41 : (Try.prog.info? 41).map (·.size) = some 4 := by kernel_rfl
theorem zero41 : zeroT Try.prog 41 = some (Value.agg #[(Value.int .i64 0), (Value.int .i64 0), (Value.int .i64 0), (Value.int .u8 0)]) := by kernel_rfl
theorem us42 : (Try.prog.underlying 42).isSome = true := by kernel_rfl
theorem agg42 : aggT Try.prog 42 = some 4 := by kernel_rfl
theorem fld42_0 : fieldT Try.prog 42 0 = some 0 := by kernel_rfl
theorem fld42_1 : fieldT Try.prog 42 1 = some 1 := by kernel_rfl
theorem fld42_2 : fieldT Try.prog 42 2 = some 2 := by kernel_rfl
theorem fld42_3 : fieldT Try.prog 42 3 = some 3 := by kernel_rfl
theorem size42 : (Try.prog.info? 42).map (·.size) = some 4 := by kernel_rfl
theorem zero42 : zeroT Try.prog 42 = some (Value.agg #[(Value.int .i64 0), (Value.int .i64 0), (Value.int .i64 0), (Value.int .u8 0)]) := by kernel_rfl
theorem us43 : (Try.prog.underlying 43).isSome = true := by kernel_rfl
theorem one43 : oneT Try.prog 43 = true := by kernel_rfl
theorem size43 : (Try.prog.info? 43).map (·.size) = some 1 := by kernel_rfl
theorem us44 : (Try.prog.underlying 44).isSome = true := by kernel_rfl
theorem one44 : oneT Try.prog 44 = true := by kernel_rfl
theorem size44 : (Try.prog.info? 44).map (·.size) = some 1 := by kernel_rfl
theorem us45 : (Try.prog.underlying 45).isSome = true := by kernel_rfl
theorem one45 : oneT Try.prog 45 = true := by kernel_rfl
theorem size45 : (Try.prog.info? 45).map (·.size) = some 1 := by kernel_rfl
theorem us46 : (Try.prog.underlying 46).isSome = true := by kernel_rfl
theorem one46 : oneT Try.prog 46 = true := by kernel_rfl
theorem size46 : (Try.prog.info? 46).map (·.size) = some 1 := by kernel_rfl
theorem us47 : (Try.prog.underlying 47).isSome = true := by kernel_rfl
theorem one47 : oneT Try.prog 47 = true := by kernel_rfl
theorem size47 : (Try.prog.info? 47).map (·.size) = some 1 := by kernel_rfl
theorem us48 : (Try.prog.underlying 48).isSome = true := by kernel_rfl
theorem one48 : oneT Try.prog 48 = true := by kernel_rfl
theorem size48 : (Try.prog.info? 48).map (·.size) = some 1 := by kernel_rfl
theorem us49 : (Try.prog.underlying 49).isSome = true := by kernel_rfl
theorem agg49 : aggT Try.prog 49 = some 1 := by kernel_rfl
theorem fld49_0 : fieldT Try.prog 49 0 = some 0 := by kernel_rfl
theorem size49 : (Try.prog.info? 49).map (·.size) = some 1 := by kernel_rfl
theorem zero49 : zeroT Try.prog 49 = some (Value.agg #[(Value.slice none 0 0)]) := by kernel_rfl
theorem us50 : (Try.prog.underlying 50).isSome = true := by kernel_rfl
theorem agg50 : aggT Try.prog 50 = some 1 := by kernel_rfl
theorem fld50_0 : fieldT Try.prog 50 0 = some 0 := by kernel_rfl
theorem size50 : (Try.prog.info? 50).map (·.size) = some 1 := by kernel_rfl
theorem zero50 : zeroT Try.prog 50 = some (Value.agg #[(Value.slice none 0 0)]) := by kernel_rfl
theorem us51 : (Try.prog.underlying 51).isSome = true := by kernel_rfl
theorem one51 : oneT Try.prog 51 = true := by kernel_rfl
theorem size51 : (Try.prog.info? 51).map (·.size) = some 1 := by kernel_rfl
theorem us52 : (Try.prog.underlying 52).isSome = true := by kernel_rfl
theorem one52 : oneT Try.prog 52 = true := by kernel_rfl
theorem size52 : (Try.prog.info? 52).map (·.size) = some 1 := by kernel_rfl
theorem us53 : (Try.prog.underlying 53).isSome = true := by kernel_rfl
theorem one53 : oneT Try.prog 53 = true := by kernel_rfl
theorem ptrt53 : Try.prog.underlying 53 = some (.pointer (Try.prog.pointee 53)) := by kernel_rfl
theorem size53 : (Try.prog.info? 53).map (·.size) = some 1 := by kernel_rfl
theorem zero53 : zeroT Try.prog 53 = some (Value.pointer none) := by kernel_rfl
theorem us54 : (Try.prog.underlying 54).isSome = true := by kernel_rfl
theorem one54 : oneT Try.prog 54 = true := by kernel_rfl
theorem size54 : (Try.prog.info? 54).map (·.size) = some 1 := by kernel_rfl
theorem us55 : (Try.prog.underlying 55).isSome = true := by kernel_rfl
theorem agg55 : aggT Try.prog 55 = some 256 := by kernel_rfl
theorem arr55 : arrT Try.prog 55 = some (256, 1) := by kernel_rfl
theorem size55 : (Try.prog.info? 55).map (·.size) = some 256 := by kernel_rfl
theorem us56 : (Try.prog.underlying 56).isSome = true := by kernel_rfl
theorem one56 : oneT Try.prog 56 = true := by kernel_rfl
theorem size56 : (Try.prog.info? 56).map (·.size) = some 1 := by kernel_rfl
theorem us57 : (Try.prog.underlying 57).isSome = true := by kernel_rfl
theorem one57 : oneT Try.prog 57 = true := by kernel_rfl
theorem size57 : (Try.prog.info? 57).map (·.size) = some 1 := by kernel_rfl
theorem zero57 : zeroT Try.prog 57 = some (Value.int .u64 0) := by kernel_rfl
theorem us58 : (Try.prog.underlying 58).isSome = true := by kernel_rfl
theorem one58 : oneT Try.prog 58 = true := by kernel_rfl
theorem size58 : (Try.prog.info? 58).map (·.size) = some 1 := by kernel_rfl
theorem us59 : (Try.prog.underlying 59).isSome = true := by kernel_rfl
theorem one59 : oneT Try.prog 59 = true := by kernel_rfl
theorem size59 : (Try.prog.info? 59).map (·.size) = some 1 := by kernel_rfl
theorem us60 : (Try.prog.underlying 60).isSome = true := by kernel_rfl
theorem one60 : oneT Try.prog 60 = true := by kernel_rfl
theorem size60 : (Try.prog.info? 60).map (·.size) = some 1 := by kernel_rfl
theorem us61 : (Try.prog.underlying 61).isSome = true := by kernel_rfl
theorem one61 : oneT Try.prog 61 = true := by kernel_rfl
theorem slt61 : SlT Try.prog 61 65 (Value.agg #[(Value.int .i64 0), (Value.int .i64 0), (Value.int .u64 0), (Value.int .u8 0)]) 4 32 := ⟨Try.underlying61, by kernel_rfl, rfl, by decide⟩
theorem size61 : (Try.prog.info? 61).map (·.size) = some 1 := by kernel_rfl
theorem zero61 : zeroT Try.prog 61 = some (Value.slice none 0 0) := by kernel_rfl
theorem us62 : (Try.prog.underlying 62).isSome = true := by kernel_rfl
theorem one62 : oneT Try.prog 62 = true := by kernel_rfl
theorem slt62 : SlT Try.prog 62 57 (Value.int .u64 0) 1 8 := ⟨Try.underlying62, by kernel_rfl, rfl, by decide⟩
theorem size62 : (Try.prog.info? 62).map (·.size) = some 1 := by kernel_rfl
theorem zero62 : zeroT Try.prog 62 = some (Value.slice none 0 0) := by kernel_rfl
theorem us63 : (Try.prog.underlying 63).isSome = true := by kernel_rfl
theorem one63 : oneT Try.prog 63 = true := by kernel_rfl
theorem slt63 : SlT Try.prog 63 9 (Value.string (bs [])) 1 16 := ⟨Try.underlying63, by kernel_rfl, rfl, by decide⟩
theorem size63 : (Try.prog.info? 63).map (·.size) = some 1 := by kernel_rfl
theorem zero63 : zeroT Try.prog 63 = some (Value.slice none 0 0) := by kernel_rfl
theorem us64 : (Try.prog.underlying 64).isSome = true := by kernel_rfl
theorem agg64 : aggT Try.prog 64 = some 4 := by kernel_rfl
theorem fld64_0 : fieldT Try.prog 64 0 = some 0 := by kernel_rfl
theorem fld64_1 : fieldT Try.prog 64 1 = some 1 := by kernel_rfl
theorem fld64_2 : fieldT Try.prog 64 2 = some 2 := by kernel_rfl
theorem fld64_3 : fieldT Try.prog 64 3 = some 3 := by kernel_rfl
theorem size64 : (Try.prog.info? 64).map (·.size) = some 4 := by kernel_rfl
theorem zero64 : zeroT Try.prog 64 = some (Value.agg #[(Value.int .i64 0), (Value.int .i64 0), (Value.int .u64 0), (Value.int .u8 0)]) := by kernel_rfl
theorem us65 : (Try.prog.underlying 65).isSome = true := by kernel_rfl
theorem agg65 : aggT Try.prog 65 = some 4 := by kernel_rfl
theorem fld65_0 : fieldT Try.prog 65 0 = some 0 := by kernel_rfl
theorem fld65_1 : fieldT Try.prog 65 1 = some 1 := by kernel_rfl
theorem fld65_2 : fieldT Try.prog 65 2 = some 2 := by kernel_rfl
theorem fld65_3 : fieldT Try.prog 65 3 = some 3 := by kernel_rfl
theorem size65 : (Try.prog.info? 65).map (·.size) = some 4 := by kernel_rfl
theorem zero65 : zeroT Try.prog 65 = some (Value.agg #[(Value.int .i64 0), (Value.int .i64 0), (Value.int .u64 0), (Value.int .u8 0)]) := by kernel_rfl
theorem us66 : (Try.prog.underlying 66).isSome = true := by kernel_rfl
theorem one66 : oneT Try.prog 66 = true := by kernel_rfl
theorem size66 : (Try.prog.info? 66).map (·.size) = some 1 := by kernel_rfl
theorem us67 : (Try.prog.underlying 67).isSome = true := by kernel_rfl
theorem one67 : oneT Try.prog 67 = true := by kernel_rfl
theorem size67 : (Try.prog.info? 67).map (·.size) = some 1 := by kernel_rfl
theorem us68 : (Try.prog.underlying 68).isSome = true := by kernel_rfl
theorem one68 : oneT Try.prog 68 = true := by kernel_rfl
theorem size68 : (Try.prog.info? 68).map (·.size) = some 1 := by kernel_rfl
theorem zero68 : zeroT Try.prog 68 = some (Value.map none) := by kernel_rfl
theorem us69 : (Try.prog.underlying 69).isSome = true := by kernel_rfl
theorem one69 : oneT Try.prog 69 = true := by kernel_rfl
theorem size69 : (Try.prog.info? 69).map (·.size) = some 1 := by kernel_rfl
theorem zero69 : zeroT Try.prog 69 = some (Value.map none) := by kernel_rfl
theorem us70 : (Try.prog.underlying 70).isSome = true := by kernel_rfl
theorem agg70 : aggT Try.prog 70 = some 3 := by kernel_rfl
theorem fld70_0 : fieldT Try.prog 70 0 = some 0 := by kernel_rfl
theorem fld70_1 : fieldT Try.prog 70 1 = some 1 := by kernel_rfl
theorem fld70_2 : fieldT Try.prog 70 2 = some 2 := by kernel_rfl
theorem size70 : (Try.prog.info? 70).map (·.size) = some 3 := by kernel_rfl
theorem zero70 : zeroT Try.prog 70 = some (Value.agg #[(Value.map none), (Value.int .i64 0), (Value.map none)]) := by kernel_rfl
theorem us71 : (Try.prog.underlying 71).isSome = true := by kernel_rfl
theorem agg71 : aggT Try.prog 71 = some 3 := by kernel_rfl
theorem fld71_0 : fieldT Try.prog 71 0 = some 0 := by kernel_rfl
theorem fld71_1 : fieldT Try.prog 71 1 = some 1 := by kernel_rfl
theorem fld71_2 : fieldT Try.prog 71 2 = some 2 := by kernel_rfl
theorem size71 : (Try.prog.info? 71).map (·.size) = some 3 := by kernel_rfl
theorem zero71 : zeroT Try.prog 71 = some (Value.agg #[(Value.map none), (Value.int .i64 0), (Value.map none)]) := by kernel_rfl
theorem us72 : (Try.prog.underlying 72).isSome = true := by kernel_rfl
theorem one72 : oneT Try.prog 72 = true := by kernel_rfl
theorem size72 : (Try.prog.info? 72).map (·.size) = some 1 := by kernel_rfl
theorem us73 : (Try.prog.underlying 73).isSome = true := by kernel_rfl
theorem one73 : oneT Try.prog 73 = true := by kernel_rfl
theorem size73 : (Try.prog.info? 73).map (·.size) = some 1 := by kernel_rfl
theorem us74 : (Try.prog.underlying 74).isSome = true := by kernel_rfl
theorem one74 : oneT Try.prog 74 = true := by kernel_rfl
theorem size74 : (Try.prog.info? 74).map (·.size) = some 1 := by kernel_rfl
theorem us75 : (Try.prog.underlying 75).isSome = true := by kernel_rfl
theorem one75 : oneT Try.prog 75 = true := by kernel_rfl
theorem size75 : (Try.prog.info? 75).map (·.size) = some 1 := by kernel_rfl
theorem us76 : (Try.prog.underlying 76).isSome = true := by kernel_rfl
theorem one76 : oneT Try.prog 76 = true := by kernel_rfl
theorem size76 : (Try.prog.info? 76).map (·.size) = some 1 := by kernel_rfl
theorem us77 : (Try.prog.underlying 77).isSome = true := by kernel_rfl
theorem one77 : oneT Try.prog 77 = true := by kernel_rfl
theorem size77 : (Try.prog.info? 77).map (·.size) = some 1 := by kernel_rfl
theorem us78 : (Try.prog.underlying 78).isSome = true := by kernel_rfl
theorem one78 : oneT Try.prog 78 = true := by kernel_rfl
theorem size78 : (Try.prog.info? 78).map (·.size) = some 1 := by kernel_rfl
theorem us79 : (Try.prog.underlying 79).isSome = true := by kernel_rfl
theorem agg79 : aggT Try.prog 79 = some 2 := by kernel_rfl
theorem fld79_0 : fieldT Try.prog 79 0 = some 0 := by kernel_rfl
theorem fld79_1 : fieldT Try.prog 79 1 = some 1 := by kernel_rfl
theorem size79 : (Try.prog.info? 79).map (·.size) = some 2 := by kernel_rfl
theorem zero79 : zeroT Try.prog 79 = some (Value.agg #[(Value.int .i64 0), (Value.int .i64 0)]) := by kernel_rfl
theorem us80 : (Try.prog.underlying 80).isSome = true := by kernel_rfl
theorem agg80 : aggT Try.prog 80 = some 2 := by kernel_rfl
theorem fld80_0 : fieldT Try.prog 80 0 = some 0 := by kernel_rfl
theorem fld80_1 : fieldT Try.prog 80 1 = some 1 := by kernel_rfl
theorem size80 : (Try.prog.info? 80).map (·.size) = some 2 := by kernel_rfl
theorem zero80 : zeroT Try.prog 80 = some (Value.agg #[(Value.int .i64 0), (Value.int .i64 0)]) := by kernel_rfl
theorem us83 : (Try.prog.underlying 83).isSome = true := by kernel_rfl
theorem one83 : oneT Try.prog 83 = true := by kernel_rfl
theorem size83 : (Try.prog.info? 83).map (·.size) = some 1 := by kernel_rfl
theorem us84 : (Try.prog.underlying 84).isSome = true := by kernel_rfl
theorem one84 : oneT Try.prog 84 = true := by kernel_rfl
theorem size84 : (Try.prog.info? 84).map (·.size) = some 1 := by kernel_rfl
theorem us85 : (Try.prog.underlying 85).isSome = true := by kernel_rfl
theorem one85 : oneT Try.prog 85 = true := by kernel_rfl
theorem size85 : (Try.prog.info? 85).map (·.size) = some 1 := by kernel_rfl
theorem us86 : (Try.prog.underlying 86).isSome = true := by kernel_rfl
theorem one86 : oneT Try.prog 86 = true := by kernel_rfl
theorem size86 : (Try.prog.info? 86).map (·.size) = some 1 := by kernel_rfl
theorem us87 : (Try.prog.underlying 87).isSome = true := by kernel_rfl
theorem one87 : oneT Try.prog 87 = true := by kernel_rfl
theorem size87 : (Try.prog.info? 87).map (·.size) = some 1 := by kernel_rfl
theorem us88 : (Try.prog.underlying 88).isSome = true := by kernel_rfl
theorem one88 : oneT Try.prog 88 = true := by kernel_rfl
theorem size88 : (Try.prog.info? 88).map (·.size) = some 1 := by kernel_rfl
theorem us89 : (Try.prog.underlying 89).isSome = true := by kernel_rfl
theorem one89 : oneT Try.prog 89 = true := by kernel_rfl
theorem size89 : (Try.prog.info? 89).map (·.size) = some 1 := by kernel_rfl
theorem us90 : (Try.prog.underlying 90).isSome = true := by kernel_rfl
theorem one90 : oneT Try.prog 90 = true := by kernel_rfl
theorem size90 : (Try.prog.info? 90).map (·.size) = some 1 := by kernel_rfl
theorem zero90 : zeroT Try.prog 90 = some (Value.int .u64 0) := by kernel_rfl
theorem us91 : (Try.prog.underlying 91).isSome = true := by kernel_rfl
theorem one91 : oneT Try.prog 91 = true := by kernel_rfl
theorem size91 : (Try.prog.info? 91).map (·.size) = some 1 := by kernel_rfl
theorem us92 : (Try.prog.underlying 92).isSome = true := by kernel_rfl
theorem one92 : oneT Try.prog 92 = true := by kernel_rfl
theorem size92 : (Try.prog.info? 92).map (·.size) = some 1 := by kernel_rfl
theorem us93 : (Try.prog.underlying 93).isSome = true := by kernel_rfl
theorem one93 : oneT Try.prog 93 = true := by kernel_rfl
theorem size93 : (Try.prog.info? 93).map (·.size) = some 1 := by kernel_rfl
theorem us94 : (Try.prog.underlying 94).isSome = true := by kernel_rfl
theorem one94 : oneT Try.prog 94 = true := by kernel_rfl
theorem size94 : (Try.prog.info? 94).map (·.size) = some 1 := by kernel_rfl
theorem us95 : (Try.prog.underlying 95).isSome = true := by kernel_rfl
theorem one95 : oneT Try.prog 95 = true := by kernel_rfl
theorem size95 : (Try.prog.info? 95).map (·.size) = some 1 := by kernel_rfl
theorem us96 : (Try.prog.underlying 96).isSome = true := by kernel_rfl
theorem one96 : oneT Try.prog 96 = true := by kernel_rfl
theorem size96 : (Try.prog.info? 96).map (·.size) = some 1 := by kernel_rfl
theorem us97 : (Try.prog.underlying 97).isSome = true := by kernel_rfl
theorem one97 : oneT Try.prog 97 = true := by kernel_rfl
theorem size97 : (Try.prog.info? 97).map (·.size) = some 1 := by kernel_rfl
theorem us98 : (Try.prog.underlying 98).isSome = true := by kernel_rfl
theorem one98 : oneT Try.prog 98 = true := by kernel_rfl
theorem size98 : (Try.prog.info? 98).map (·.size) = some 1 := by kernel_rfl
theorem us99 : (Try.prog.underlying 99).isSome = true := by kernel_rfl
theorem one99 : oneT Try.prog 99 = true := by kernel_rfl
theorem size99 : (Try.prog.info? 99).map (·.size) = some 1 := by kernel_rfl
theorem us100 : (Try.prog.underlying 100).isSome = true := by kernel_rfl
theorem one100 : oneT Try.prog 100 = true := by kernel_rfl
theorem size100 : (Try.prog.info? 100).map (·.size) = some 1 := by kernel_rfl
theorem us101 : (Try.prog.underlying 101).isSome = true := by kernel_rfl
theorem one101 : oneT Try.prog 101 = true := by kernel_rfl
theorem size101 : (Try.prog.info? 101).map (·.size) = some 1 := by kernel_rfl
theorem us102 : (Try.prog.underlying 102).isSome = true := by kernel_rfl
theorem one102 : oneT Try.prog 102 = true := by kernel_rfl
theorem size102 : (Try.prog.info? 102).map (·.size) = some 1 := by kernel_rfl
theorem us103 : (Try.prog.underlying 103).isSome = true := by kernel_rfl
theorem one103 : oneT Try.prog 103 = true := by kernel_rfl
theorem size103 : (Try.prog.info? 103).map (·.size) = some 1 := by kernel_rfl
theorem us104 : (Try.prog.underlying 104).isSome = true := by kernel_rfl
theorem one104 : oneT Try.prog 104 = true := by kernel_rfl
theorem size104 : (Try.prog.info? 104).map (·.size) = some 1 := by kernel_rfl
theorem zero104 : zeroT Try.prog 104 = some (Value.int .i64 0) := by kernel_rfl
theorem us106 : (Try.prog.underlying 106).isSome = true := by kernel_rfl
theorem one106 : oneT Try.prog 106 = true := by kernel_rfl
theorem size106 : (Try.prog.info? 106).map (·.size) = some 1 := by kernel_rfl
theorem us107 : (Try.prog.underlying 107).isSome = true := by kernel_rfl
theorem one107 : oneT Try.prog 107 = true := by kernel_rfl
theorem size107 : (Try.prog.info? 107).map (·.size) = some 1 := by kernel_rfl
theorem us108 : (Try.prog.underlying 108).isSome = true := by kernel_rfl
theorem one108 : oneT Try.prog 108 = true := by kernel_rfl
theorem size108 : (Try.prog.info? 108).map (·.size) = some 1 := by kernel_rfl
theorem us109 : (Try.prog.underlying 109).isSome = true := by kernel_rfl
theorem one109 : oneT Try.prog 109 = true := by kernel_rfl
theorem size109 : (Try.prog.info? 109).map (·.size) = some 1 := by kernel_rfl
theorem us111 : (Try.prog.underlying 111).isSome = true := by kernel_rfl
theorem one111 : oneT Try.prog 111 = true := by kernel_rfl
theorem size111 : (Try.prog.info? 111).map (·.size) = some 1 := by kernel_rfl
theorem us112 : (Try.prog.underlying 112).isSome = true := by kernel_rfl
theorem one112 : oneT Try.prog 112 = true := by kernel_rfl
theorem size112 : (Try.prog.info? 112).map (·.size) = some 1 := by kernel_rfl
theorem us113 : (Try.prog.underlying 113).isSome = true := by kernel_rfl
theorem one113 : oneT Try.prog 113 = true := by kernel_rfl
theorem size113 : (Try.prog.info? 113).map (·.size) = some 1 := by kernel_rfl
theorem zero113 : zeroT Try.prog 113 = some (Value.int .u32 0) := by kernel_rfl
theorem us114 : (Try.prog.underlying 114).isSome = true := by kernel_rfl
theorem one114 : oneT Try.prog 114 = true := by kernel_rfl
theorem size114 : (Try.prog.info? 114).map (·.size) = some 1 := by kernel_rfl
theorem us115 : (Try.prog.underlying 115).isSome = true := by kernel_rfl
theorem one115 : oneT Try.prog 115 = true := by kernel_rfl
theorem size115 : (Try.prog.info? 115).map (·.size) = some 1 := by kernel_rfl
theorem us116 : (Try.prog.underlying 116).isSome = true := by kernel_rfl
theorem one116 : oneT Try.prog 116 = true := by kernel_rfl
theorem size116 : (Try.prog.info? 116).map (·.size) = some 1 := by kernel_rfl
theorem us117 : (Try.prog.underlying 117).isSome = true := by kernel_rfl
theorem one117 : oneT Try.prog 117 = true := by kernel_rfl
theorem size117 : (Try.prog.info? 117).map (·.size) = some 1 := by kernel_rfl
theorem us118 : (Try.prog.underlying 118).isSome = true := by kernel_rfl
theorem one118 : oneT Try.prog 118 = true := by kernel_rfl
theorem size118 : (Try.prog.info? 118).map (·.size) = some 1 := by kernel_rfl
theorem us119 : (Try.prog.underlying 119).isSome = true := by kernel_rfl
theorem one119 : oneT Try.prog 119 = true := by kernel_rfl
theorem size119 : (Try.prog.info? 119).map (·.size) = some 1 := by kernel_rfl
theorem us120 : (Try.prog.underlying 120).isSome = true := by kernel_rfl
theorem one120 : oneT Try.prog 120 = true := by kernel_rfl
theorem size120 : (Try.prog.info? 120).map (·.size) = some 1 := by kernel_rfl
theorem us121 : (Try.prog.underlying 121).isSome = true := by kernel_rfl
theorem one121 : oneT Try.prog 121 = true := by kernel_rfl
theorem size121 : (Try.prog.info? 121).map (·.size) = some 1 := by kernel_rfl
theorem zero121 : zeroT Try.prog 121 = some (Value.int .u64 0) := by kernel_rfl
theorem us122 : (Try.prog.underlying 122).isSome = true := by kernel_rfl
theorem one122 : oneT Try.prog 122 = true := by kernel_rfl
theorem size122 : (Try.prog.info? 122).map (·.size) = some 1 := by kernel_rfl
theorem us123 : (Try.prog.underlying 123).isSome = true := by kernel_rfl
theorem one123 : oneT Try.prog 123 = true := by kernel_rfl
theorem size123 : (Try.prog.info? 123).map (·.size) = some 1 := by kernel_rfl
theorem us124 : (Try.prog.underlying 124).isSome = true := by kernel_rfl
theorem one124 : oneT Try.prog 124 = true := by kernel_rfl
theorem size124 : (Try.prog.info? 124).map (·.size) = some 1 := by kernel_rfl
theorem us125 : (Try.prog.underlying 125).isSome = true := by kernel_rfl
theorem one125 : oneT Try.prog 125 = true := by kernel_rfl
theorem ptrt125 : Try.prog.underlying 125 = some (.pointer (Try.prog.pointee 125)) := by kernel_rfl
theorem size125 : (Try.prog.info? 125).map (·.size) = some 1 := by kernel_rfl
theorem zero125 : zeroT Try.prog 125 = some (Value.pointer none) := by kernel_rfl
theorem us126 : (Try.prog.underlying 126).isSome = true := by kernel_rfl
theorem one126 : oneT Try.prog 126 = true := by kernel_rfl
theorem size126 : (Try.prog.info? 126).map (·.size) = some 1 := by kernel_rfl
theorem us127 : (Try.prog.underlying 127).isSome = true := by kernel_rfl
theorem one127 : oneT Try.prog 127 = true := by kernel_rfl
theorem size127 : (Try.prog.info? 127).map (·.size) = some 1 := by kernel_rfl
theorem us128 : (Try.prog.underlying 128).isSome = true := by kernel_rfl
theorem one128 : oneT Try.prog 128 = true := by kernel_rfl
theorem size128 : (Try.prog.info? 128).map (·.size) = some 1 := by kernel_rfl
theorem us129 : (Try.prog.underlying 129).isSome = true := by kernel_rfl
theorem one129 : oneT Try.prog 129 = true := by kernel_rfl
theorem ptrt129 : Try.prog.underlying 129 = some (.pointer (Try.prog.pointee 129)) := by kernel_rfl
theorem size129 : (Try.prog.info? 129).map (·.size) = some 1 := by kernel_rfl
theorem zero129 : zeroT Try.prog 129 = some (Value.pointer none) := by kernel_rfl
theorem us131 : (Try.prog.underlying 131).isSome = true := by kernel_rfl
theorem one131 : oneT Try.prog 131 = true := by kernel_rfl
theorem size131 : (Try.prog.info? 131).map (·.size) = some 1 := by kernel_rfl
theorem us132 : (Try.prog.underlying 132).isSome = true := by kernel_rfl
theorem one132 : oneT Try.prog 132 = true := by kernel_rfl
theorem size132 : (Try.prog.info? 132).map (·.size) = some 1 := by kernel_rfl
theorem us133 : (Try.prog.underlying 133).isSome = true := by kernel_rfl
theorem one133 : oneT Try.prog 133 = true := by kernel_rfl
theorem size133 : (Try.prog.info? 133).map (·.size) = some 1 := by kernel_rfl
theorem us134 : (Try.prog.underlying 134).isSome = true := by kernel_rfl
theorem agg134 : aggT Try.prog 134 = some 4 := by kernel_rfl
theorem fld134_0 : fieldT Try.prog 134 0 = some 0 := by kernel_rfl
theorem fld134_1 : fieldT Try.prog 134 1 = some 1 := by kernel_rfl
theorem fld134_2 : fieldT Try.prog 134 2 = some 2 := by kernel_rfl
theorem fld134_3 : fieldT Try.prog 134 3 = some 3 := by kernel_rfl
theorem size134 : (Try.prog.info? 134).map (·.size) = some 4 := by kernel_rfl
theorem zero134 : zeroT Try.prog 134 = some (Value.agg #[(Value.pointer none), (Value.pointer none), (Value.pointer none), (Value.string (bs []))]) := by kernel_rfl
theorem us135 : (Try.prog.underlying 135).isSome = true := by kernel_rfl
theorem agg135 : aggT Try.prog 135 = some 4 := by kernel_rfl
theorem fld135_0 : fieldT Try.prog 135 0 = some 0 := by kernel_rfl
theorem fld135_1 : fieldT Try.prog 135 1 = some 1 := by kernel_rfl
theorem fld135_2 : fieldT Try.prog 135 2 = some 2 := by kernel_rfl
theorem fld135_3 : fieldT Try.prog 135 3 = some 3 := by kernel_rfl
theorem size135 : (Try.prog.info? 135).map (·.size) = some 4 := by kernel_rfl
theorem zero135 : zeroT Try.prog 135 = some (Value.agg #[(Value.pointer none), (Value.pointer none), (Value.pointer none), (Value.string (bs []))]) := by kernel_rfl
theorem us136 : (Try.prog.underlying 136).isSome = true := by kernel_rfl
theorem agg136 : aggT Try.prog 136 = some 0 := by kernel_rfl
theorem arr136 : arrT Try.prog 136 = some (0, 1) := by kernel_rfl
theorem size136 : (Try.prog.info? 136).map (·.size) = some 0 := by kernel_rfl
theorem zero136 : zeroT Try.prog 136 = some (Value.agg #[]) := by kernel_rfl
theorem us137 : (Try.prog.underlying 137).isSome = true := by kernel_rfl
theorem agg137 : aggT Try.prog 137 = some 0 := by kernel_rfl
theorem size137 : (Try.prog.info? 137).map (·.size) = some 0 := by kernel_rfl
theorem zero137 : zeroT Try.prog 137 = some (Value.agg #[]) := by kernel_rfl
theorem us138 : (Try.prog.underlying 138).isSome = true := by kernel_rfl
theorem agg138 : aggT Try.prog 138 = some 0 := by kernel_rfl
theorem size138 : (Try.prog.info? 138).map (·.size) = some 0 := by kernel_rfl
theorem zero138 : zeroT Try.prog 138 = some (Value.agg #[]) := by kernel_rfl
theorem us139 : (Try.prog.underlying 139).isSome = true := by kernel_rfl
theorem one139 : oneT Try.prog 139 = true := by kernel_rfl
theorem size139 : (Try.prog.info? 139).map (·.size) = some 1 := by kernel_rfl
theorem zero139 : zeroT Try.prog 139 = some (Value.int .u8 0) := by kernel_rfl
theorem us140 : (Try.prog.underlying 140).isSome = true := by kernel_rfl
theorem one140 : oneT Try.prog 140 = true := by kernel_rfl
theorem size140 : (Try.prog.info? 140).map (·.size) = some 1 := by kernel_rfl
theorem zero140 : zeroT Try.prog 140 = some (Value.int .u8 0) := by kernel_rfl
theorem us141 : (Try.prog.underlying 141).isSome = true := by kernel_rfl
theorem one141 : oneT Try.prog 141 = true := by kernel_rfl
theorem size141 : (Try.prog.info? 141).map (·.size) = some 1 := by kernel_rfl
theorem us142 : (Try.prog.underlying 142).isSome = true := by kernel_rfl
theorem one142 : oneT Try.prog 142 = true := by kernel_rfl
theorem ptrt142 : Try.prog.underlying 142 = some (.pointer (Try.prog.pointee 142)) := by kernel_rfl
theorem size142 : (Try.prog.info? 142).map (·.size) = some 1 := by kernel_rfl
theorem zero142 : zeroT Try.prog 142 = some (Value.pointer none) := by kernel_rfl
theorem us143 : (Try.prog.underlying 143).isSome = true := by kernel_rfl
theorem one143 : oneT Try.prog 143 = true := by kernel_rfl
theorem size143 : (Try.prog.info? 143).map (·.size) = some 1 := by kernel_rfl
theorem zero143 : zeroT Try.prog 143 = some (Value.int .i32 0) := by kernel_rfl
theorem us144 : (Try.prog.underlying 144).isSome = true := by kernel_rfl
theorem one144 : oneT Try.prog 144 = true := by kernel_rfl
theorem size144 : (Try.prog.info? 144).map (·.size) = some 1 := by kernel_rfl
theorem zero144 : zeroT Try.prog 144 = some (Value.int .i32 0) := by kernel_rfl
theorem us145 : (Try.prog.underlying 145).isSome = true := by kernel_rfl
theorem agg145 : aggT Try.prog 145 = some 11 := by kernel_rfl
theorem fld145_0 : fieldT Try.prog 145 0 = some 0 := by kernel_rfl
theorem fld145_1 : fieldT Try.prog 145 1 = some 1 := by kernel_rfl
theorem fld145_2 : fieldT Try.prog 145 2 = some 2 := by kernel_rfl
theorem fld145_3 : fieldT Try.prog 145 3 = some 3 := by kernel_rfl
theorem fld145_4 : fieldT Try.prog 145 4 = some 4 := by kernel_rfl
theorem fld145_5 : fieldT Try.prog 145 5 = some 5 := by kernel_rfl
theorem fld145_6 : fieldT Try.prog 145 6 = some 6 := by kernel_rfl
theorem fld145_7 : fieldT Try.prog 145 7 = some 7 := by kernel_rfl
theorem fld145_8 : fieldT Try.prog 145 8 = some 8 := by kernel_rfl
theorem fld145_9 : fieldT Try.prog 145 9 = some 9 := by kernel_rfl
theorem fld145_10 : fieldT Try.prog 145 10 = some 10 := by kernel_rfl
theorem size145 : (Try.prog.info? 145).map (·.size) = some 11 := by kernel_rfl
theorem zero145 : zeroT Try.prog 145 = some (Value.agg #[(Value.int .u64 0), (Value.int .u64 0), (Value.int .u32 0), (Value.int .u8 0), (Value.int .u8 0), (Value.int .u8 0), (Value.int .u8 0), Value.nilFunc, (Value.pointer none), (Value.int .i32 0), (Value.int .i32 0)]) := by kernel_rfl
theorem us146 : (Try.prog.underlying 146).isSome = true := by kernel_rfl
theorem agg146 : aggT Try.prog 146 = some 11 := by kernel_rfl
theorem fld146_0 : fieldT Try.prog 146 0 = some 0 := by kernel_rfl
theorem fld146_1 : fieldT Try.prog 146 1 = some 1 := by kernel_rfl
theorem fld146_2 : fieldT Try.prog 146 2 = some 2 := by kernel_rfl
theorem fld146_3 : fieldT Try.prog 146 3 = some 3 := by kernel_rfl
theorem fld146_4 : fieldT Try.prog 146 4 = some 4 := by kernel_rfl
theorem fld146_5 : fieldT Try.prog 146 5 = some 5 := by kernel_rfl
theorem fld146_6 : fieldT Try.prog 146 6 = some 6 := by kernel_rfl
theorem fld146_7 : fieldT Try.prog 146 7 = some 7 := by kernel_rfl
theorem fld146_8 : fieldT Try.prog 146 8 = some 8 := by kernel_rfl
theorem fld146_9 : fieldT Try.prog 146 9 = some 9 := by kernel_rfl
theorem fld146_10 : fieldT Try.prog 146 10 = some 10 := by kernel_rfl
theorem size146 : (Try.prog.info? 146).map (·.size) = some 11 := by kernel_rfl
theorem zero146 : zeroT Try.prog 146 = some (Value.agg #[(Value.int .u64 0), (Value.int .u64 0), (Value.int .u32 0), (Value.int .u8 0), (Value.int .u8 0), (Value.int .u8 0), (Value.int .u8 0), Value.nilFunc, (Value.pointer none), (Value.int .i32 0), (Value.int .i32 0)]) := by kernel_rfl
theorem us147 : (Try.prog.underlying 147).isSome = true := by kernel_rfl
theorem one147 : oneT Try.prog 147 = true := by kernel_rfl
theorem size147 : (Try.prog.info? 147).map (·.size) = some 1 := by kernel_rfl
theorem zero147 : zeroT Try.prog 147 = some (Value.pointer none) := by kernel_rfl
theorem ok3 : callOk Try.prog 3 = true := by kernel_rfl
theorem ok4 : callOk Try.prog 4 = true := by kernel_rfl
theorem ok5 : callOk Try.prog 5 = true := by kernel_rfl
theorem ok6 : callOk Try.prog 6 = true := by kernel_rfl
theorem ok7 : callOk Try.prog 7 = true := by kernel_rfl
theorem ok8 : callOk Try.prog 8 = true := by kernel_rfl
theorem ok9 : callOk Try.prog 9 = true := by kernel_rfl
theorem ok10 : callOk Try.prog 10 = true := by kernel_rfl
theorem ok11 : callOk Try.prog 11 = true := by kernel_rfl
theorem ok12 : callOk Try.prog 12 = true := by kernel_rfl
theorem ok13 : callOk Try.prog 13 = true := by kernel_rfl
theorem ok14 : callOk Try.prog 14 = true := by kernel_rfl
theorem ok15 : callOk Try.prog 15 = true := by kernel_rfl
theorem ok16 : callOk Try.prog 16 = true := by kernel_rfl
theorem ok17 : callOk Try.prog 17 = true := by kernel_rfl
theorem ok18 : callOk Try.prog 18 = true := by kernel_rfl
theorem ok19 : callOk Try.prog 19 = true := by kernel_rfl
theorem ok20 : callOk Try.prog 20 = true := by kernel_rfl
theorem ok21 : callOk Try.prog 21 = true := by kernel_rfl
theorem ok22 : callOk Try.prog 22 = true := by kernel_rfl
theorem ok23 : callOk Try.prog 23 = true := by kernel_rfl
theorem ok24 : callOk Try.prog 24 = true := by kernel_rfl
theorem ok25 : callOk Try.prog 25 = true := by kernel_rfl
theorem ok26 : callOk Try.prog 26 = true := by kernel_rfl
theorem ok27 : callOk Try.prog 27 = true := by kernel_rfl
theorem ok28 : callOk Try.prog 28 = true := by kernel_rfl
theorem ok29 : callOk Try.prog 29 = true := by kernel_rfl
theorem ok30 : callOk Try.prog 30 = true := by kernel_rfl
theorem ok31 : callOk Try.prog 31 = true := by kernel_rfl
theorem ok32 : callOk Try.prog 32 = true := by kernel_rfl
theorem ok33 : callOk Try.prog 33 = true := by kernel_rfl
theorem ok34 : callOk Try.prog 34 = true := by kernel_rfl
theorem ok35 : callOk Try.prog 35 = true := by kernel_rfl
theorem ok36 : callOk Try.prog 36 = true := by kernel_rfl
theorem ok37 : callOk Try.prog 37 = true := by kernel_rfl
theorem ok38 : callOk Try.prog 38 = true := by kernel_rfl
theorem ok39 : callOk Try.prog 39 = true := by kernel_rfl
theorem ok40 : callOk Try.prog 40 = true := by kernel_rfl
theorem ok41 : callOk Try.prog 41 = true := by kernel_rfl
theorem ok42 : callOk Try.prog 42 = true := by kernel_rfl
theorem ok43 : callOk Try.prog 43 = true := by kernel_rfl
theorem ok44 : callOk Try.prog 44 = true := by kernel_rfl
theorem ok45 : callOk Try.prog 45 = true := by kernel_rfl
theorem ok46 : callOk Try.prog 46 = true := by kernel_rfl
theorem ok47 : callOk Try.prog 47 = true := by kernel_rfl
theorem ok48 : callOk Try.prog 48 = true := by kernel_rfl
theorem ok49 : callOk Try.prog 49 = true := by kernel_rfl
theorem ok50 : callOk Try.prog 50 = true := by kernel_rfl
theorem ok51 : callOk Try.prog 51 = true := by kernel_rfl
theorem ok52 : callOk Try.prog 52 = true := by kernel_rfl
theorem ok53 : callOk Try.prog 53 = true := by kernel_rfl
theorem ok54 : callOk Try.prog 54 = true := by kernel_rfl
theorem ok55 : callOk Try.prog 55 = true := by kernel_rfl
theorem ok56 : callOk Try.prog 56 = true := by kernel_rfl
theorem ok57 : callOk Try.prog 57 = true := by kernel_rfl
theorem ok58 : callOk Try.prog 58 = true := by kernel_rfl
theorem ok59 : callOk Try.prog 59 = true := by kernel_rfl
theorem ok60 : callOk Try.prog 60 = true := by kernel_rfl
theorem ok61 : callOk Try.prog 61 = true := by kernel_rfl
theorem ok62 : callOk Try.prog 62 = true := by kernel_rfl
theorem ok63 : callOk Try.prog 63 = true := by kernel_rfl
theorem ok64 : callOk Try.prog 64 = true := by kernel_rfl
theorem ok65 : callOk Try.prog 65 = true := by kernel_rfl
theorem ok66 : callOk Try.prog 66 = true := by kernel_rfl
theorem ok67 : callOk Try.prog 67 = true := by kernel_rfl
theorem ok68 : callOk Try.prog 68 = true := by kernel_rfl
theorem ok69 : callOk Try.prog 69 = true := by kernel_rfl
theorem ok70 : callOk Try.prog 70 = true := by kernel_rfl
theorem ok71 : callOk Try.prog 71 = true := by kernel_rfl
theorem ok72 : callOk Try.prog 72 = true := by kernel_rfl
theorem ok73 : callOk Try.prog 73 = true := by kernel_rfl
theorem ok74 : callOk Try.prog 74 = true := by kernel_rfl
theorem ok75 : callOk Try.prog 75 = true := by kernel_rfl
theorem ok76 : callOk Try.prog 76 = true := by kernel_rfl
theorem ok77 : callOk Try.prog 77 = true := by kernel_rfl
theorem ok78 : callOk Try.prog 78 = true := by kernel_rfl
theorem ok79 : callOk Try.prog 79 = true := by kernel_rfl
theorem ok80 : callOk Try.prog 80 = true := by kernel_rfl
theorem ok81 : callOk Try.prog 81 = true := by kernel_rfl
theorem ok82 : callOk Try.prog 82 = true := by kernel_rfl
theorem ok83 : callOk Try.prog 83 = true := by kernel_rfl
theorem ok84 : callOk Try.prog 84 = true := by kernel_rfl
theorem ok85 : callOk Try.prog 85 = true := by kernel_rfl
theorem ok86 : callOk Try.prog 86 = true := by kernel_rfl
theorem ok87 : callOk Try.prog 87 = true := by kernel_rfl
theorem ok88 : callOk Try.prog 88 = true := by kernel_rfl
theorem ok89 : callOk Try.prog 89 = true := by kernel_rfl
theorem ok90 : callOk Try.prog 90 = true := by kernel_rfl
theorem ok91 : callOk Try.prog 91 = true := by kernel_rfl
theorem ok92 : callOk Try.prog 92 = true := by kernel_rfl
theorem ok93 : callOk Try.prog 93 = true := by kernel_rfl
theorem ok94 : callOk Try.prog 94 = true := by kernel_rfl
theorem ok95 : callOk Try.prog 95 = true := by kernel_rfl
theorem ok96 : callOk Try.prog 96 = true := by kernel_rfl
theorem ok97 : callOk Try.prog 97 = true := by kernel_rfl
theorem ok98 : callOk Try.prog 98 = true := by kernel_rfl
theorem mixed : Try.prog.follows .mixedOrders = true := by kernel_rfl
end Go.Proofs.Ytdhpalioifjfbaa

/- Walks, written by a program: what each function of the translation hands back. -/
namespace Go.Proofs.Ytdhpalioifjfbaa
open Go.Gx Go.RowKit
attribute [local irreducible] wpList wpStill Code.wp Calls

theorem num_ret (bs : By) (vb : Value) (base p : Nat) (w : World) (hl : bs.length = 256) (hx : Bx w p 50 [vb]) (O : Own w base 5 1 vb 256 (bs.map u8v)) (k : Nat) (hk : k + 1 < 256) : Ret Try.prog 52 #[(ptr p 0), (Value.int .i64 ((k : Nat) : Int))] w (fun v' w' => Below w.heap.size w w' ∧ v' = .int .i64 (numB bs k : Int)) := by
 have hb := Below.refl w.heap.size w
 refine enter (N := 24) Try.func52 rfl rfl (by simp) fun a0 hN hd hA => ?_
 have s0 : a0.tmps.getD 0 undef = (ptr p 0) := hA 0 (by simp)
 have s1 : a0.tmps.getD 1 undef = (Value.int .i64 ((k : Nat) : Int)) := hA 1 (by simp)
 clear hA
 refine seq_any fun K1 hK1 => ?_
 refine one_reg ?_
 refine op_assign rfl ?_
 refine reg_nil ?_
 refine hK1 _ _ ?_
 refine seq_any fun K2 hK2 => ?_
 refine reg_still mixed (by kernel_rfl) ?_
 intro w4 E3
 have z_w4 := E3.size
 have hx := hx.keep0 E3
 have O := O.keep0 E3
 have hb := below_step0 hb E3 hb.size
 refine st_step rfl (fun _ h9 => op_move (ev_base hN rfl s0) h9) ?_
 refine st_step rfl (fun _ h9 => op_nil (ev_hit hN rfl) h9) ?_
 refine st_step rfl (fun _ h9 => op_field fld50_0 (ev_hit hN rfl) h9) ?_
 refine st_step rfl (fun _ h9 => op_load1 (v := vb) one22 (ev_hit hN rfl) (hx.cell rfl) h9) ?_
 refine st_step rfl (fun _ h9 => op_move (ev_base hN rfl s1) h9) ?_
 refine st_index_rd slt22 (ev_hit hN rfl) O.rdw (ev_hit hN rfl) (by omega) (by omega) ?_
 intro b5 o6 h0b5 h1b5 hc7
 refine st_step rfl (fun _ h9 => op_load1 (v := (Value.int .u8 ((bs.getD k 0).toNat : Int))) one5 (ev_hit hN rfl) (by have := hc7 0 (Value.int .u8 ((bs.getD k 0).toNat : Int)) (by decide) (el_u8 (i := k) (by omega) (by omega)); simpa using this) h9) ?_
 refine st_step rfl (fun _ h9 => op_conv (r := ((bs.getD k 0).toNat : Int)) (ev_hit hN rfl) us5 Try.underlying3 (wrap_i64 (by have := ((bs.getD k 0)).toNat_lt; omega)) h9) ?_
 refine st_step rfl (fun _ h9 => op_shl (r := (((bs.getD k 0).toNat : Int) * 256)) (ev_hit hN rfl) rfl (by decide) (shl8i (by have := (bs.getD k 0).toNat_lt; omega)) h9) ?_
 refine st_step rfl (fun _ h9 => op_move (ev_base hN rfl s0) h9) ?_
 refine st_step rfl (fun _ h9 => op_nil (ev_hit hN rfl) h9) ?_
 refine st_step rfl (fun _ h9 => op_field fld50_0 (ev_hit hN rfl) h9) ?_
 refine st_step rfl (fun _ h9 => op_load1 (v := vb) one22 (ev_hit hN rfl) (hx.cell rfl) h9) ?_
 refine st_step rfl (fun _ h9 => op_move (ev_base hN rfl s1) h9) ?_
 refine st_step rfl (fun _ h9 => op_add (ev_hit hN rfl) rfl (add64 (by omega)) h9) ?_
 refine st_index_rd slt22 (ev_hit hN rfl) O.rdw (ev_hit hN rfl) (by omega) (by omega) ?_
 intro b8 o9 h0b8 h1b8 hc10
 refine st_step rfl (fun _ h9 => op_load1 (v := (Value.int .u8 ((bs.getD (k + 1) 0).toNat : Int))) one5 (ev_hit hN rfl) (by have := hc10 0 (Value.int .u8 ((bs.getD (k + 1) 0).toNat : Int)) (by decide) (el_u8 (i := (k + 1)) (by omega) (by omega)); simpa using this) h9) ?_
 refine st_step rfl (fun _ h9 => op_conv (r := ((bs.getD (k + 1) 0).toNat : Int)) (ev_hit hN rfl) us5 Try.underlying3 (wrap_i64 (by have := ((bs.getD (k + 1) 0)).toNat_lt; omega)) h9) ?_
 refine st_step rfl (fun _ h9 => op_or (r := ((numB bs k : Nat) : Int)) (ev_hit hN rfl) (ev_hit hN rfl) (or8i (bs.getD k 0).toNat_lt (bs.getD (k + 1) 0).toNat_lt) h9) ?_
 refine st_step rfl (fun _ h9 => op_assign (ev_hit hN rfl) h9) ?_
 refine st_nil ?_
 refine hK2 _ _ ?_
 refine wp_ret ?_
 refine ret1 rfl hd (ev_hit hN rfl) ⟨_, rfl, ?_⟩
 -- path
 exact ⟨hb, rfl⟩

theorem set_ret (bs : By) (vb : Value) (base p : Nat) (w : World) (hl : bs.length = 256) (hx : Bx w p 50 [vb]) (O : Own w base 5 1 vb 256 (bs.map u8v)) (k n : Nat) (hk : k + 1 < 256) (hn : n < 65536) : Ret Try.prog 42 #[(ptr p 0), (Value.int .i64 ((k : Nat) : Int)), (Value.int .i64 ((n : Nat) : Int))] w (fun v' w' => w.grownBy w' vb.ownBlock ∧ v' = .tuple #[] ∧ Own w' base 5 1 vb 256 ((setB bs k n).map u8v)) := by
 have hb := grown_refl w vb.ownBlock
 refine enter (N := 24) Try.func42 rfl rfl (by simp) fun a0 hN hd hA => ?_
 have s0 : a0.tmps.getD 0 undef = (ptr p 0) := hA 0 (by simp)
 have s1 : a0.tmps.getD 1 undef = (Value.int .i64 ((k : Nat) : Int)) := hA 1 (by simp)
 have s2 : a0.tmps.getD 2 undef = (Value.int .i64 ((n : Nat) : Int)) := hA 2 (by simp)
 clear hA
 refine reg_mid (e := 5) (sz := 1) (base := base) (n := 256) (v := vb) (Φ := phiL [(fun uz _ => uz = (ptr p 0)), (fun uz _ => uz = (ptr p 0)), (fun uz _ => uz = (ptr p 0)), (fun uz _ => uz = vb), (fun uz _ => uz = (Value.int .i64 ((k : Nat) : Int))), (fun uz _ => uz = (ptr p 0)), (fun uz _ => uz = (ptr p 0)), (fun uz _ => uz = (ptr p 0)), (fun uz _ => uz = vb), (fun uz _ => uz = (Value.int .i64 ((k : Nat) : Int))), (fun uz _ => uz = (Value.int .i64 (((k : Nat) : Int) + 1))), (fun uz _ => uz = (Value.int .i64 ((n : Nat) : Int))), (fun uz _ => uz = (Value.int .i64 ((n / 2 ^ 8 : Nat) : Int))), (fun uz _ => uz = (Value.int .u8 ((UInt8.ofNat (n / 2 ^ 8)).toNat : Int))), (fun uz _ => uz = (Value.int .i64 ((n : Nat) : Int))), (fun uz _ => uz = (Value.int .u8 ((UInt8.ofNat n).toNat : Int))), (fun uz _ => ∃ bz oz, uz = ptr bz oz ∧ AtV vb k bz oz), (fun _ _ => True), (fun uz _ => ∃ bz oz, uz = ptr bz oz ∧ AtV vb (k + 1) bz oz), (fun _ _ => True)]) [17, 19] [(bs.map u8v), ((bs.set k (UInt8.ofNat (n / 2 ^ 8))).map u8v), (((bs.set k (UInt8.ofNat (n / 2 ^ 8))).set (k + 1) (UInt8.ofNat n)).map u8v)] mixed (by kernel_rfl) (by kernel_rfl) (by kernel_rfl) (by kernel_rfl) hN O (StL.get (StL.eq (StL.eq (StL.eq (StL.eq (StL.eq (StL.eq (StL.eq (StL.eq (StL.eq (StL.eq (StL.eq (StL.eq (StL.eq (StL.eq (StL.eq (StL.eq (StL.at (StL.cons (fun _ _ _ _ h => h) (StL.at (StL.cons (fun _ _ _ _ h => h) (StL.nil _)))))))))))))))))))))) (ObRs.get (ObRs.cons ?_ (ObRs.cons ?_ (ObRs.cons ?_ (ObRs.cons ?_ (ObRs.cons ?_ (ObRs.cons ?_ (ObRs.cons ?_ (ObRs.cons ?_ (ObRs.cons ?_ (ObRs.cons ?_ (ObRs.cons ?_ (ObRs.cons ?_ (ObRs.cons ?_ (ObRs.cons ?_ (ObRs.cons ?_ (ObRs.cons ?_ (ObRs.cons ?_ (ObRs.pass rfl (ObRs.cons ?_ (ObRs.pass rfl (ObRs.nil)))))))))))))))))))))) (ObWs.get (ObWs.cons ?_ (ObWs.cons ?_ (ObWs.nil)))) ?_
 ·
  intro aA wA cA hNA hRA hckA hOA hbsA hdpA
  have qA_0 := (hbsA 0 rfl).trans (sl_base hN rfl s0)
  clear hbsA hdpA
  refine op_move (ev_base hNA rfl qA_0) ?_
  exact obR_end rfl rfl (grown_refl _ _)
 ·
  intro aA wA cA hNA hRA hckA hOA hbsA hdpA
  have qA_6 : Sl aA 6 (ptr p 0) := hdpA 0 _ 6 (by kernel_rfl) rfl rfl
  clear hbsA hdpA
  refine op_nil (ev_base hNA rfl qA_6) ?_
  exact obR_end rfl rfl (grown_refl _ _)
 ·
  intro aA wA cA hNA hRA hckA hOA hbsA hdpA
  have qA_7 : Sl aA 7 (ptr p 0) := hdpA 1 _ 7 (by kernel_rfl) rfl rfl
  clear hbsA hdpA
  refine op_field fld50_0 (ev_base hNA rfl qA_7) ?_
  exact obR_end rfl rfl (grown_refl _ _)
 ·
  intro aA wA cA hNA hRA hckA hOA hbsA hdpA
  have qA_8 : Sl aA 8 (ptr p 0) := hdpA 2 _ 8 (by kernel_rfl) rfl rfl
  clear hbsA hdpA
  have hx := hx.keepO O hRA (by decide)
  refine op_load1 (v := vb) one22 (ev_base hNA rfl qA_8) (hx.cell rfl) ?_
  exact obR_end rfl rfl (grown_refl _ _)
 ·
  intro aA wA cA hNA hRA hckA hOA hbsA hdpA
  have qA_1 := (hbsA 1 rfl).trans (sl_base hN rfl s1)
  clear hbsA hdpA
  refine op_move (ev_base hNA rfl qA_1) ?_
  exact obR_end rfl rfl (grown_refl _ _)
 ·
  intro aA wA cA hNA hRA hckA hOA hbsA hdpA
  have qA_0 := (hbsA 0 rfl).trans (sl_base hN rfl s0)
  clear hbsA hdpA
  refine op_move (ev_base hNA rfl qA_0) ?_
  exact obR_end rfl rfl (grown_refl _ _)
 ·
  intro aA wA cA hNA hRA hckA hOA hbsA hdpA
  have qA_11 : Sl aA 11 (ptr p 0) := hdpA 5 _ 11 (by kernel_rfl) rfl rfl
  clear hbsA hdpA
  refine op_nil (ev_base hNA rfl qA_11) ?_
  exact obR_end rfl rfl (grown_refl _ _)
 ·
  intro aA wA cA hNA hRA hckA hOA hbsA hdpA
  have qA_12 : Sl aA 12 (ptr p 0) := hdpA 6 _ 12 (by kernel_rfl) rfl rfl
  clear hbsA hdpA
  refine op_field fld50_0 (ev_base hNA rfl qA_12) ?_
  exact obR_end rfl rfl (grown_refl _ _)
 ·
  intro aA wA cA hNA hRA hckA hOA hbsA hdpA
  have qA_13 : Sl aA 13 (ptr p 0) := hdpA 7 _ 13 (by kernel_rfl) rfl rfl
  clear hbsA hdpA
  have hx := hx.keepO O hRA (by decide)
  refine op_load1 (v := vb) one22 (ev_base hNA rfl qA_13) (hx.cell rfl) ?_
  exact obR_end rfl rfl (grown_refl _ _)
 ·
  intro aA wA cA hNA hRA hckA hOA hbsA hdpA
  have qA_1 := (hbsA 1 rfl).trans (sl_base hN rfl s1)
  clear hbsA hdpA
  refine op_move (ev_base hNA rfl qA_1) ?_
  exact obR_end rfl rfl (grown_refl _ _)
 ·
  intro aA wA cA hNA hRA hckA hOA hbsA hdpA
  have qA_15 : Sl aA 15 (Value.int .i64 ((k : Nat) : Int)) := hdpA 9 _ 15 (by kernel_rfl) rfl rfl
  clear hbsA hdpA
  refine op_add (ev_base hNA rfl qA_15) rfl (add64 (by omega)) ?_
  exact obR_end rfl rfl (grown_refl _ _)
 ·
  intro aA wA cA hNA hRA hckA hOA hbsA hdpA
  have qA_2 := (hbsA 2 rfl).trans (sl_base hN rfl s2)
  clear hbsA hdpA
  refine op_move (ev_base hNA rfl qA_2) ?_
  exact obR_end rfl rfl (grown_refl _ _)
 ·
  intro aA wA cA hNA hRA hckA hOA hbsA hdpA
  have qA_17 : Sl aA 17 (Value.int .i64 ((n : Nat) : Int)) := hdpA 11 _ 17 (by kernel_rfl) rfl rfl
  clear hbsA hdpA
  refine op_shr (r := ((n / 2 ^ 8 : Nat) : Int)) (ev_base hNA rfl qA_17) rfl (by decide) (shr_nat rfl (by decide)) ?_
  exact obR_end rfl rfl (grown_refl _ _)
 ·
  intro aA wA cA hNA hRA hckA hOA hbsA hdpA
  have qA_18 : Sl aA 18 (Value.int .i64 ((n / 2 ^ 8 : Nat) : Int)) := hdpA 12 _ 18 (by kernel_rfl) rfl rfl
  clear hbsA hdpA
  refine op_conv (r := ((UInt8.ofNat (n / 2 ^ 8)).toNat : Int)) (ev_base hNA rfl qA_18) us3 Try.underlying5 conv_u8 ?_
  exact obR_end rfl rfl (grown_refl _ _)
 ·
  intro aA wA cA hNA hRA hckA hOA hbsA hdpA
  have qA_2 := (hbsA 2 rfl).trans (sl_base hN rfl s2)
  clear hbsA hdpA
  refine op_move (ev_base hNA rfl qA_2) ?_
  exact obR_end rfl rfl (grown_refl _ _)
 ·
  intro aA wA cA hNA hRA hckA hOA hbsA hdpA
  have qA_20 : Sl aA 20 (Value.int .i64 ((n : Nat) : Int)) := hdpA 14 _ 20 (by kernel_rfl) rfl rfl
  clear hbsA hdpA
  refine op_conv (r := ((UInt8.ofNat n).toNat : Int)) (ev_base hNA rfl qA_20) us3 Try.underlying5 conv_u8 ?_
  exact obR_end rfl rfl (grown_refl _ _)
 ·
  intro aA wA cA hNA hRA hckA hOA hbsA hdpA
  have qA_9 : Sl aA 9 vb := hdpA 3 _ 9 (by kernel_rfl) rfl rfl
  have qA_10 : Sl aA 10 (Value.int .i64 ((k : Nat) : Int)) := hdpA 4 _ 10 (by kernel_rfl) rfl rfl
  clear hbsA hdpA
  refine op_index_own (i := k) slt22 (ev_base hNA rfl qA_9) hOA (ev_base hNA rfl qA_10) (by omega) (by omega) ?_
  intro b_ o_ _ hA_
  exact obR_end rfl ⟨b_, o_, rfl, by simpa using hA_⟩ (grown_refl _ _)
 ·
  intro aA wA cA hNA hRA hckA hOA hbsA hdpA
  have qA_14 : Sl aA 14 vb := hdpA 8 _ 14 (by kernel_rfl) rfl rfl
  have qA_16 : Sl aA 16 (Value.int .i64 (((k : Nat) : Int) + 1)) := hdpA 10 _ 16 (by kernel_rfl) rfl rfl
  clear hbsA hdpA
  refine op_index_own (i := (k + 1)) slt22 (ev_base hNA rfl qA_14) hOA (ev_base hNA rfl qA_16) (by omega) (by omega) ?_
  intro b_ o_ _ hA_
  exact obR_end rfl ⟨b_, o_, rfl, by simpa using hA_⟩ (grown_refl _ _)
 ·
  intro o_ ho_; obtain rfl := Option.some.inj ho_; intro aA wA hNA hRA hbsA hdpA hOA
  obtain ⟨bA_22, oA_22, qA_22, hAA_22⟩ := hdpA 16 _ 22 (by kernel_rfl) rfl rfl
  have qA_19 : Sl aA 19 (Value.int .u8 ((UInt8.ofNat (n / 2 ^ 8)).toNat : Int)) := hdpA 13 _ 19 (by kernel_rfl) rfl rfl
  clear hbsA hdpA
  have hOA : Own wA base 5 1 vb 256 (bs.map u8v) := hOA
  refine op_store_own (vs := [(Value.int .u8 ((UInt8.ofNat (n / 2 ^ 8)).toNat : Int))]) size5 (ev_base hNA rfl qA_22) (ev_base hNA rfl qA_19) rfl rfl rfl hOA hAA_22 (by have := hOA.1; simp at this ⊢; omega) ?_
  intro w_ hO_ E_
  exact obW_end rfl (hO_.cast rfl (set_u8 (by first | omega | (simp; omega)))) E_
 ·
  intro o_ ho_; obtain rfl := Option.some.inj ho_; intro aA wA hNA hRA hbsA hdpA hOA
  obtain ⟨bA_23, oA_23, qA_23, hAA_23⟩ := hdpA 18 _ 23 (by kernel_rfl) rfl rfl
  have qA_21 : Sl aA 21 (Value.int .u8 ((UInt8.ofNat n).toNat : Int)) := hdpA 15 _ 21 (by kernel_rfl) rfl rfl
  clear hbsA hdpA
  have hOA : Own wA base 5 1 vb 256 ((bs.set k (UInt8.ofNat (n / 2 ^ 8))).map u8v) := hOA
  refine op_store_own (vs := [(Value.int .u8 ((UInt8.ofNat n).toNat : Int))]) size5 (ev_base hNA rfl qA_23) (ev_base hNA rfl qA_21) rfl rfl rfl hOA hAA_23 (by have := hOA.1; simp at this ⊢; omega) ?_
  intro w_ hO_ E_
  exact obW_end rfl (hO_.cast rfl (set_u8 (by first | omega | (simp; omega)))) E_
 ·
  intro a11 w11 hN11 hd11 hbs11 hph11 hO11 E11
  have hd11 := hd11.trans hd
  clear hbs11 hph11
  have hO11 : Own w11 base 5 1 vb 256 (((bs.set k (UInt8.ofNat (n / 2 ^ 8))).set (k + 1) (UInt8.ofNat n)).map u8v) := hO11
  have z_w11 := E11.size
  have hx := hx.keepO O E11 (by decide)
  have hb := grow_stepX hb E11 rfl
  refine end_ret ?_
  refine ret0 rfl hd11  ⟨_, rfl, ?_⟩
  -- path
  exact ⟨hb, rfl, hO11⟩

theorem pts_ret (bs : By) (vb : Value) (base p : Nat) (w : World) (hl : bs.length = 256) (hx : Bx w p 50 [vb]) (O : Own w base 5 1 vb 256 (bs.map u8v)) (k a n : Nat) (hk : k < 62) (ha : a < 65536) (hn : n < 65536) : Ret Try.prog 41 #[(ptr p 0), (Value.int .i64 ((k : Nat) : Int)), (Value.int .i64 ((a : Nat) : Int)), (Value.int .i64 ((n : Nat) : Int))] w (fun v' w' => w.grownBy w' vb.ownBlock ∧ v' = .tuple #[] ∧ Own w' base 5 1 vb 256 ((ptsB bs k a n).map u8v)) := by
 have hb := grown_refl w vb.ownBlock
 refine enter (N := 21) Try.func41 rfl rfl (by simp) fun a0 hN hd hA => ?_
 have s0 : a0.tmps.getD 0 undef = (ptr p 0) := hA 0 (by simp)
 have s1 : a0.tmps.getD 1 undef = (Value.int .i64 ((k : Nat) : Int)) := hA 1 (by simp)
 have s2 : a0.tmps.getD 2 undef = (Value.int .i64 ((a : Nat) : Int)) := hA 2 (by simp)
 have s3 : a0.tmps.getD 3 undef = (Value.int .i64 ((n : Nat) : Int)) := hA 3 (by simp)
 clear hA
 refine seq_any fun K12 hK12 => ?_
 refine one_reg ?_
 refine op_move (ev_base hN rfl s0) ?_
 refine op_move (ev_base hN rfl s1) ?_
 refine op_mul (ev_hit hN rfl) rfl (mul64 (by omega)) ?_
 refine op_add rfl (ev_hit hN rfl) (add64 (by omega)) ?_
 refine op_move (ev_base hN rfl s2) ?_
 refine op_fn (vs := [(ptr p 0), (Value.int .i64 (8 + (((k : Nat) : Int) * 4))), (Value.int .i64 ((a : Nat) : Int))]) ok42 ⟨(ev_hit hN rfl), ⟨(ev_hit hN rfl), ⟨(ev_hit hN rfl), trivial⟩⟩⟩ (set_ret bs _ _ _ _ (by first | assumption | exact Rep.len (by assumption)) hx O (8 + (k * 4)) a (by omega) (by omega)) ?_
 rintro _ w14 ⟨E15, rfl, hO13⟩
 have z_w14 := E15.size
 have hx := hx.keepO O E15 (by decide)
 have hb := grow_stepX hb E15 rfl
 have hl_hO13 : (setB bs (8 + (k * 4)) a).length = 256 := (setB_len _ _ _).trans (by first | assumption | exact Rep.len (by assumption))
 refine reg_nil ?_
 refine hK12 _ _ ?_
 refine one_reg ?_
 refine op_move (ev_base hN rfl s0) ?_
 refine op_move (ev_base hN rfl s1) ?_
 refine op_mul (ev_hit hN rfl) rfl (mul64 (by omega)) ?_
 refine op_add rfl (ev_hit hN rfl) (add64 (by omega)) ?_
 refine op_add (ev_hit hN rfl) rfl (add64 (by omega)) ?_
 refine op_move (ev_base hN rfl s3) ?_
 refine op_fn (vs := [(ptr p 0), (Value.int .i64 ((8 + (((k : Nat) : Int) * 4)) + 2)), (Value.int .i64 ((n : Nat) : Int))]) ok42 ⟨(ev_hit hN rfl), ⟨(ev_hit hN rfl), ⟨(ev_hit hN rfl), trivial⟩⟩⟩ (set_ret (setB bs (8 + (k * 4)) a) _ _ _ _ (by first | assumption | exact Rep.len (by assumption)) hx hO13 ((8 + (k * 4)) + 2) n (by omega) (by omega)) ?_
 rintro _ w17 ⟨E18, rfl, hO16⟩
 have z_w17 := E18.size
 have hx := hx.keepO hO13 E18 (by decide)
 have hb := grow_stepX hb E18 rfl
 have hl_hO16 : (setB (setB bs (8 + (k * 4)) a) ((8 + (k * 4)) + 2) n).length = 256 := (setB_len _ _ _).trans (by first | assumption | exact Rep.len (by assumption))
 refine reg_nil ?_
 refine end_ret ?_
 refine ret0 rfl hd  ⟨_, rfl, ?_⟩
 -- path
 exact ⟨hb, rfl, hO16⟩

end Go.Proofs.Ytdhpalioifjfbaa

/- Walks, written by a program: what each function of the translation hands back. -/
namespace Go.Proofs.Ytdhpalioifjfbaa
open Go.Gx Go.RowKit
attribute [local irreducible] wpList wpStill Code.wp Calls

theorem many_ret (bs : By) (vb : Value) (base p : Nat) (w : World) (hl : bs.length = 256) (hx : Bx w p 50 [vb]) (O : Own w base 5 1 vb 256 (bs.map u8v)) (L : List By) (R : Rep bs L) : Ret Try.prog 37 #[(ptr p 0)] w (fun v' w' => Below w.heap.size w w' ∧ v' = .int .i64 (L.length : Int)) := by
 have hb := Below.refl w.heap.size w
 refine enter (N := 5) Try.func37 rfl rfl (by simp) fun a0 hN hd hA => ?_
 have s0 : a0.tmps.getD 0 undef = (ptr p 0) := hA 0 (by simp)
 clear hA
 refine seq_any fun K19 hK19 => ?_
 refine one_reg ?_
 refine op_assign rfl ?_
 refine reg_nil ?_
 refine hK19 _ _ ?_
 refine seq_any fun K20 hK20 => ?_
 refine one_reg ?_
 refine op_move (ev_base hN rfl s0) ?_
 refine op_fn (vs := [(ptr p 0), (Value.int .i64 0)]) ok52 ⟨(ev_hit hN rfl), ⟨rfl, trivial⟩⟩ (num_ret bs _ _ _ _ (by first | assumption | exact Rep.len (by assumption)) hx O 0 (by omega)) ?_
 rintro _ w21 ⟨E22, rfl⟩
 have E22 := grown_of_below E22
 have z_w21 := E22.size
 have hx := hx.keep0 E22
 have O := O.keep0 E22
 have hb := below_step0 hb E22 hb.size
 refine op_assign (ev_hit hN rfl) ?_
 refine reg_nil ?_
 refine hK20 _ _ ?_
 refine wp_ret ?_
 refine ret1 rfl hd (ev_hit hN rfl) ⟨_, rfl, ?_⟩
 -- path
 exact ⟨hb, by rw [R.many]⟩

theorem at_ret (bs : By) (vb : Value) (base p : Nat) (w : World) (hl : bs.length = 256) (hx : Bx w p 50 [vb]) (O : Own w base 5 1 vb 256 (bs.map u8v)) (k : Nat) (hk : k < 62) : Ret Try.prog 43 #[(ptr p 0), (Value.int .i64 ((k : Nat) : Int))] w (fun v' w' => Below w.heap.size w w' ∧ v' = .int .i64 (numB bs (8 + k * 4) : Int)) := by
 have hb := Below.refl w.heap.size w
 refine enter (N := 10) Try.func43 rfl rfl (by simp) fun a0 hN hd hA => ?_
 have s0 : a0.tmps.getD 0 undef = (ptr p 0) := hA 0 (by simp)
 have s1 : a0.tmps.getD 1 undef = (Value.int .i64 ((k : Nat) : Int)) := hA 1 (by simp)
 clear hA
 refine seq_any fun K23 hK23 => ?_
 refine one_reg ?_
 refine op_assign rfl ?_
 refine reg_nil ?_
 refine hK23 _ _ ?_
 refine seq_any fun K24 hK24 => ?_
 refine one_reg ?_
 refine op_move (ev_base hN rfl s0) ?_
 refine op_move (ev_base hN rfl s1) ?_
 refine op_mul (ev_hit hN rfl) rfl (mul64 (by omega)) ?_
 refine op_add rfl (ev_hit hN rfl) (add64 (by omega)) ?_
 refine op_fn (vs := [(ptr p 0), (Value.int .i64 (8 + (((k : Nat) : Int) * 4)))]) ok52 ⟨(ev_hit hN rfl), ⟨(ev_hit hN rfl), trivial⟩⟩ (num_ret bs _ _ _ _ (by first | assumption | exact Rep.len (by assumption)) hx O (8 + (k * 4)) (by omega)) ?_
 rintro _ w25 ⟨E26, rfl⟩
 have E26 := grown_of_below E26
 have z_w25 := E26.size
 have hx := hx.keep0 E26
 have O := O.keep0 E26
 have hb := below_step0 hb E26 hb.size
 refine op_assign (ev_hit hN rfl) ?_
 refine reg_nil ?_
 refine hK24 _ _ ?_
 refine wp_ret ?_
 refine ret1 rfl hd (ev_hit hN rfl) ⟨_, rfl, ?_⟩
 -- path
 exact ⟨hb, rfl⟩

theorem size_ret (bs : By) (vb : Value) (base p : Nat) (w : World) (hl : bs.length = 256) (hx : Bx w p 50 [vb]) (O : Own w base 5 1 vb 256 (bs.map u8v)) (L : List By) (R : Rep bs L) (s : Int) (hs : -9223372036854775808 ≤ s ∧ s ≤ 9223372036854775807) : Ret Try.prog 38 #[(ptr p 0), (Value.int .i64 s)] w (fun v' w' => Below w.heap.size w w' ∧ v' = .int .i64 (sizeL L s : Int)) := by
 have hb := Below.refl w.heap.size w
 refine enter (N := 19) Try.func38 rfl rfl (by simp) fun a0 hN hd hA => ?_
 have s0 : a0.tmps.getD 0 undef = (ptr p 0) := hA 0 (by simp)
 have s1 : a0.tmps.getD 1 undef = (Value.int .i64 s) := hA 1 (by simp)
 clear hA
 refine seq_any fun K27 hK27 => ?_
 refine one_reg ?_
 refine op_assign rfl ?_
 refine reg_nil ?_
 refine hK27 _ _ ?_
 refine seq_any fun K28 hK28 => ?_
 refine seq_any fun K29 hK29 => ?_
 refine one_reg ?_
 refine op_move (ev_base hN rfl s1) ?_
 refine op_lss (ev_hit hN rfl) rfl (fun c6 => ?_) (fun c6 => ?_)
 · -- 6T
  refine op_move (ev_hit hN rfl) ?_
  refine g_false (j := 2) (dj := 7) (b := false) rfl rfl rfl (ev_hit hN rfl) rfl rfl ?_
  refine g_false (j := 2) (dj := 7) (b := false) rfl rfl rfl (ev_hit hN rfl) rfl rfl ?_
  refine g_false (j := 2) (dj := 7) (b := false) rfl rfl rfl (ev_hit hN rfl) rfl rfl ?_
  refine g_false (j := 2) (dj := 7) (b := false) rfl rfl rfl (ev_hit hN rfl) rfl rfl ?_
  refine op_pick_t (ev_hit hN rfl) rfl ?_
  refine reg_nil ?_
  refine hK29 _ _ ?_
  refine wp_cond_true (ev_hit hN rfl) ?_
  refine seq_any fun K30 hK30 => ?_
  refine one_reg ?_
  refine op_assign rfl ?_
  refine reg_nil ?_
  refine hK30 _ _ ?_
  refine wp_ret (then_ret ( ?_))
  refine ret1 rfl hd (ev_hit hN rfl) ⟨_, rfl, ?_⟩
  -- path 6T
  exact ⟨hb, congrArg (Value.int .i64) (by rw [sizeL_out (by omega)]; rfl)⟩
 · -- 6F
  refine op_move (ev_hit hN rfl) ?_
  refine g_true (j := 2) (dj := 7) (b := false) rfl rfl rfl (ev_hit hN rfl) ?_
  refine op_move (ev_base hN rfl s1) ?_
  refine g_true (j := 2) (dj := 7) (b := false) rfl rfl rfl (ev_hit hN rfl) ?_
  refine op_move (ev_base hN rfl s0) ?_
  refine g_true (j := 2) (dj := 7) (b := false) rfl rfl rfl (ev_hit hN rfl) ?_
  refine op_fn (vs := [(ptr p 0)]) ok37 ⟨(ev_hit hN rfl), trivial⟩ (many_ret bs _ _ _ _ (by first | assumption | exact Rep.len (by assumption)) hx O L R) ?_
  rintro _ w32 ⟨E33, rfl⟩
  have E33 := grown_of_below E33
  have z_w32 := E33.size
  have hx := hx.keep0 E33
  have O := O.keep0 E33
  have hb := below_step0 hb E33 hb.size
  have hm_31 := Rep.fits R
  refine g_true (j := 2) (dj := 7) (b := false) rfl rfl rfl (ev_hit hN rfl) ?_
  refine op_geq (ev_hit hN rfl) (ev_hit hN rfl) (fun c11 => ?_) (fun c11 => ?_)
  · -- 11T
   refine op_pick_f (ev_hit hN rfl) (ev_hit hN rfl) ?_
   refine reg_nil ?_
   refine hK29 _ _ ?_
   refine wp_cond_true (ev_hit hN rfl) ?_
   refine seq_any fun K34 hK34 => ?_
   refine one_reg ?_
   refine op_assign rfl ?_
   refine reg_nil ?_
   refine hK34 _ _ ?_
   refine wp_ret (then_ret ( ?_))
   refine ret1 rfl hd (ev_hit hN rfl) ⟨_, rfl, ?_⟩
   -- path 6F 11T
   exact ⟨hb, congrArg (Value.int .i64) (by rw [sizeL_out (by omega)]; rfl)⟩
  · -- 11F
   refine op_pick_f (ev_hit hN rfl) (ev_hit hN rfl) ?_
   refine reg_nil ?_
   refine hK29 _ _ ?_
   refine wp_cond_false (ev_hit hN rfl) ?_
   refine wp_skip ?_
   refine hK28 _ _ ?_
   refine seq_any fun K35 hK35 => ?_
   refine one_reg ?_
   refine op_move (ev_base hN rfl s0) ?_
   refine op_move ((ev_base hN rfl s1).trans (congrArg (Value.int .i64) (show _ = ((s.toNat : Nat) : Int) by omega))) ?_
   refine op_mul (ev_hit hN rfl) rfl (mul64 (by omega)) ?_
   refine op_add rfl (ev_hit hN rfl) (add64 (by omega)) ?_
   refine op_add (ev_hit hN rfl) rfl (add64 (by omega)) ?_
   refine op_fn (vs := [(ptr p 0), (Value.int .i64 ((8 + (((s.toNat : Nat) : Int) * 4)) + 2))]) ok52 ⟨(ev_hit hN rfl), ⟨(ev_hit hN rfl), trivial⟩⟩ (num_ret bs _ _ _ _ (by first | assumption | exact Rep.len (by assumption)) hx O ((8 + (s.toNat * 4)) + 2) (by omega)) ?_
   rintro _ w36 ⟨E37, rfl⟩
   have E37 := grown_of_below E37
   have z_w36 := E37.size
   have hx := hx.keep0 E37
   have O := O.keep0 E37
   have hb := below_step0 hb E37 hb.size
   refine op_assign (ev_hit hN rfl) ?_
   refine reg_nil ?_
   refine hK35 _ _ ?_
   refine wp_ret ?_
   refine ret1 rfl hd (ev_hit hN rfl) ⟨_, rfl, ?_⟩
   -- path 6F 11F
   exact ⟨hb, congrArg (Value.int .i64) (by rw [R.size (by omega)]; unfold sizeL; rw [if_neg (by omega)])⟩

theorem left_ret (bs : By) (vb : Value) (base p : Nat) (w : World) (hl : bs.length = 256) (hx : Bx w p 50 [vb]) (O : Own w base 5 1 vb 256 (bs.map u8v)) (L : List By) (R : Rep bs L) (m : Nat) (hm : m ≤ 1000) : Ret Try.prog 39 #[(ptr p 0), (Value.int .i64 ((m : Nat) : Int))] w (fun v' w' => Below w.heap.size w w' ∧ v' = .int .i64 (leftL L m)) := by
 have hb := Below.refl w.heap.size w
 refine enter (N := 22) Try.func39 rfl rfl (by simp) fun a0 hN hd hA => ?_
 have s0 : a0.tmps.getD 0 undef = (ptr p 0) := hA 0 (by simp)
 have s1 : a0.tmps.getD 1 undef = (Value.int .i64 ((m : Nat) : Int)) := hA 1 (by simp)
 clear hA
 refine seq_any fun K38 hK38 => ?_
 refine one_reg ?_
 refine op_assign rfl ?_
 refine reg_nil ?_
 refine hK38 _ _ ?_
 refine seq_any fun K39 hK39 => ?_
 refine one_reg ?_
 refine op_move (ev_base hN rfl s1) ?_
 refine op_mul (ev_hit hN rfl) rfl (mul64 (by omega)) ?_
 refine op_sub rfl (ev_hit hN rfl) (sub64 (by omega)) ?_
 refine op_assign (ev_hit hN rfl) ?_
 refine reg_nil ?_
 refine hK39 _ _ ?_
 refine seq_any fun K40 hK40 => ?_
 refine seq_any fun K41 hK41 => ?_
 refine one_reg ?_
 refine op_move (ev_base hN rfl s0) ?_
 refine op_fn (vs := [(ptr p 0)]) ok37 ⟨(ev_hit hN rfl), trivial⟩ (many_ret bs _ _ _ _ (by first | assumption | exact Rep.len (by assumption)) hx O L R) ?_
 rintro _ w43 ⟨E44, rfl⟩
 have E44 := grown_of_below E44
 have z_w43 := E44.size
 have hx := hx.keep0 E44
 have O := O.keep0 E44
 have hb := below_step0 hb E44 hb.size
 have hm_42 := Rep.fits R
 refine op_move rfl ?_
 refine reg_nil ?_
 refine hK41 _ _ ?_
 refine wp_block ?_
 refine loop_m (fun mz_ az_ w' => ∃ (s : Nat), mz_ = L.length - s ∧ (az_.tmps.getD 0 undef = (ptr p 0)) ∧ (az_.tmps.getD 4 undef = (Value.int .i64 0)) ∧ (az_.tmps.getD 11 undef = (Value.int .i64 ((L.length : Nat) : Int))) ∧ (az_.tmps.getD 12 undef = (Value.int .i64 ((s : Nat) : Int))) ∧ (az_.tmps.getD 5 undef = (Value.int .i64 (248 - ((m : Nat) : Int) * 4 - ((sumL (L.take s) : Nat) : Int)))) ∧ (s ≤ L.length) ∧ (Below w.heap.size w w') ∧ (w43.heap.size ≤ w'.heap.size) ∧ (Bx w' p 50 [vb]) ∧ (Own w' base 5 1 vb 256 (bs.map u8v))) _ hN hd ⟨0, rfl, (sl_base hN rfl s0), (sl_hit hN rfl), (sl_hit hN rfl), (sl_hit hN rfl), (sl_hit hN rfl).trans (congrArg (Value.int .i64) (by rw [List.take_zero, show sumL [] = 0 from rfl]; omega)), Nat.zero_le _, hb, (Nat.le_refl _), hx, O⟩ ?_
 rintro _ a45 w45 hN45 hd45 ⟨s, rfl, s45_0, s45_4, s45_11, s45_12, s45_5, hs, hb, zl_w45, hx, O⟩
 have z_w45 := hb.size
 refine seq_any fun K46 hK46 => ?_
 refine one_reg ?_
 refine op_lss (ev_base hN45 rfl s45_12) (ev_base hN45 rfl s45_11) (fun c13 => ?_) (fun c13 => ?_)
 · -- 13T
  refine reg_nil ?_
  refine hK46 _ _ ?_
  refine seq_any fun K47 hK47 => ?_
  refine wp_cond_true (ev_hit hN45 rfl) ?_
  refine wp_skip ?_
  refine hK47 _ _ ?_
  refine seq_any fun K48 hK48 => ?_
  refine wp_block ?_
  refine seq_any fun K49 hK49 => ?_
  refine one_reg ?_
  refine op_move (ev_base hN45 rfl s45_12) ?_
  refine op_assign (ev_hit hN45 rfl) ?_
  refine reg_nil ?_
  refine hK49 _ _ ?_
  refine one_reg ?_
  have hts := sumL_take_le L s
  have hts2 := R.sum
  refine op_move (ev_base hN45 rfl s45_5) ?_
  refine op_move (ev_base hN45 rfl s45_0) ?_
  refine op_move (ev_hit hN45 rfl) ?_
  refine op_fn (vs := [(ptr p 0), (Value.int .i64 ((s : Nat) : Int))]) ok38 ⟨(ev_hit hN45 rfl), ⟨(ev_hit hN45 rfl), trivial⟩⟩ (size_ret bs _ _ _ _ (by first | assumption | exact Rep.len (by assumption)) hx O L R ((s : Nat) : Int) (by omega)) ?_
  rintro _ w51 ⟨E52, rfl⟩
  have E52 := grown_of_below E52
  have z_w51 := E52.size
  have hx := hx.keep0 E52
  have O := O.keep0 E52
  have hb := below_step0 hb E52 hb.size
  have hz_50 := sizeL_le R ((s : Nat) : Int)
  refine op_sub (ev_hit hN45 rfl) (ev_hit hN45 rfl) (sub64 (by omega)) ?_
  refine op_assign (ev_hit hN45 rfl) ?_
  refine reg_nil ?_
  refine hK48 _ _ ?_
  refine one_reg ?_
  refine op_add (ev_base hN45 rfl s45_12) rfl (add64 (by omega)) ?_
  refine op_move (ev_hit hN45 rfl) ?_
  refine reg_nil ?_
  -- round 13T
  have hst := sumL_step (L := L) (i := s) (by omega)
  have hsi := sizeL_in (L := L) (s := s) (by omega)
  exact loop_next _ hN45 hd45 ⟨s + 1, rfl, (sl_base hN45 rfl s45_0), (sl_base hN45 rfl s45_4), (sl_base hN45 rfl s45_11), (sl_hit hN45 rfl).trans (congrArg (Value.int .i64) (by omega)), (sl_hit hN45 rfl).trans (congrArg (Value.int .i64) (by omega)), (by omega), hb, (by omega), hx, O⟩ (by omega)
 · -- 13F
  refine reg_nil ?_
  refine hK46 _ _ ?_
  refine seq_any fun K53 hK53 => ?_
  refine wp_cond_false (ev_hit hN45 rfl) ?_
  refine wp_exit (then_exit (then_exit (blk_hit ?_)))
  refine hK40 _ _ ?_
  refine seq_any fun K54 hK54 => ?_
  refine one_reg ?_
  refine op_move (ev_base hN45 rfl s45_5) ?_
  refine op_assign (ev_hit hN45 rfl) ?_
  refine reg_nil ?_
  refine hK54 _ _ ?_
  refine wp_ret ?_
  refine ret1 rfl hd45 (ev_hit hN45 rfl) ⟨_, rfl, ?_⟩
  -- path 13F
  exact ⟨hb, congrArg (Value.int .i64) (by rw [List.take_of_length_le (by omega)]; rfl)⟩

end Go.Proofs.Ytdhpalioifjfbaa

/- Walks, written by a program: what each function of the translation hands back. -/
namespace Go.Proofs.Ytdhpalioifjfbaa
open Go.Gx Go.RowKit
attribute [local irreducible] wpList wpStill Code.wp Calls

theorem ready0_ret (vb : Value) (base p : Nat) (w : World) (hx : Bx w p 50 [vb]) (O : Own w base 5 1 vb 0 []) : Ret Try.prog 36 #[(ptr p 0)] w (fun v' w' => w.grownBy w' (some p) ∧ v' = .tuple #[] ∧ ∃ u, Bx w' p 50 [u] ∧ Own w' w.heap.size 5 1 u 256 (newB.map u8v)) := by
 have hb := grown_refl w (some p)
 refine enter (N := 14) Try.func36 rfl rfl (by simp) fun a0 hN hd hA => ?_
 have s0 : a0.tmps.getD 0 undef = (ptr p 0) := hA 0 (by simp)
 clear hA
 refine seq_any fun K1 hK1 => ?_
 refine one_reg ?_
 refine op_move (ev_base hN rfl s0) ?_
 refine op_nil (ev_hit hN rfl) ?_
 refine op_field fld50_0 (ev_hit hN rfl) ?_
 refine op_load1 (v := vb) one22 (ev_hit hN rfl) (hx.cell rfl) ?_
 refine op_len_rd Try.underlying22 (ev_hit hN rfl) O.rdw ?_
 refine op_bin (v := .bool true) (ev_hit hN rfl) rfl (by rw [binOp_eql]; rfl) ?_
 refine reg_nil ?_
 refine hK1 _ _ ?_
 refine wp_cond_true (ev_hit hN rfl) ?_
 refine seq_any fun K2 hK2 => ?_
 refine one_reg ?_
 refine op_move (ev_base hN rfl s0) ?_
 refine op_make (n := 256) (y' := .const undef) slt22 rfl rfl rfl (by omega) (by omega) hb.size ?_
 intro v5 w3 hO6 E4 lo7
 have z_w3 := E4.size
 have hx := hx.keep0 E4
 have O := O.keep0 E4
 have hb := grow_step0 hb E4
 have hO6 : Own w3 w.heap.size 5 1 v5 256 (((List.replicate 256 0 : By)).map u8v) := by exact hO6.cast rfl (zeros_u8 _)
 refine op_nil (ev_hit hN rfl) ?_
 refine op_field fld50_0 (ev_hit hN rfl) ?_
 have hx_old := hx
 refine op_store (vs := [v5]) (cs' := [v5]) size22 (ev_hit hN rfl) (ev_hit hN rfl) hO6.cl rfl (by simp only [List.all_cons, List.all_nil, Bool.true_and, Bool.and_true, hO6.one]; try rfl) hx (Nat.le_of_ble_eq_true rfl) rfl ?_
 intro w10 hx E11
 have z_w10 := E11.size
 have O := O.keepX hx_old E11 (by decide)
 have hO6 := hO6.keepX hx_old E11 (by decide)
 have hb := grown_trans hb E11
 refine reg_nil ?_
 refine hK2 _ _ ?_
 refine one_reg ?_
 refine op_move (ev_base hN rfl s0) ?_
 have hl0 : (List.replicate 256 0 : By).length = 256 := List.length_replicate
 refine op_fn (vs := [(ptr p 0), (Value.int .i64 2), (Value.int .i64 256)]) ok42 ⟨(ev_hit hN rfl), ⟨rfl, ⟨rfl, trivial⟩⟩⟩ (set_ret (List.replicate 256 0 : By) _ _ _ _ (by first | assumption | exact Rep.len (by assumption)) hx hO6 2 256 (by omega) (by omega)) ?_
 rintro _ w13 ⟨E14, rfl, hO12⟩
 have z_w13 := E14.size
 have hx := hx.keepO hO6 E14 (by decide)
 have hb := grow_stepO hb hO6 E14 (by omega)
 have hl_hO12 : (setB (List.replicate 256 0 : By) 2 256).length = 256 := (setB_len _ _ _).trans (by first | assumption | exact Rep.len (by assumption))
 refine reg_nil ?_
 refine end_ret ?_
 refine ret0 rfl hd  ⟨_, rfl, ?_⟩
 -- path
 exact ⟨hb, rfl, _, hx, hO12⟩

theorem ready1_ret (bs : By) (vb : Value) (base p : Nat) (w : World) (hl : bs.length = 256) (hx : Bx w p 50 [vb]) (O : Own w base 5 1 vb 256 (bs.map u8v))  : Ret Try.prog 36 #[(ptr p 0)] w (fun v' w' => Below w.heap.size w w' ∧ v' = .tuple #[]) := by
 have hb := Below.refl w.heap.size w
 refine enter (N := 14) Try.func36 rfl rfl (by simp) fun a0 hN hd hA => ?_
 have s0 : a0.tmps.getD 0 undef = (ptr p 0) := hA 0 (by simp)
 clear hA
 refine seq_any fun K15 hK15 => ?_
 refine one_reg ?_
 refine op_move (ev_base hN rfl s0) ?_
 refine op_nil (ev_hit hN rfl) ?_
 refine op_field fld50_0 (ev_hit hN rfl) ?_
 refine op_load1 (v := vb) one22 (ev_hit hN rfl) (hx.cell rfl) ?_
 refine op_len_rd Try.underlying22 (ev_hit hN rfl) O.rdw ?_
 refine op_bin (v := .bool false) (ev_hit hN rfl) rfl (by rw [binOp_eql]; rfl) ?_
 refine reg_nil ?_
 refine hK15 _ _ ?_
 refine wp_cond_false (ev_hit hN rfl) ?_
 refine wp_skip ?_
 refine end_ret ?_
 refine ret0 rfl hd  ⟨_, rfl, ?_⟩
 -- path
 exact ⟨hb, rfl⟩

theorem ready_ret (L : List By) (bs : By) (n : Nat) (vb : Value) (base p : Nat) (w : World) (hbase : base ≤ w.heap.size) (hx : Bx w p 50 [vb]) (O : Own w base 5 1 vb n (bs.map u8v)) (hP : Pg n bs L vb) : Ret Try.prog 36 #[ptr p 0] w (fun v' w' => w.grownBy w' (pgRow p n vb) ∧ v' = .tuple #[] ∧ ∃ u bs', Bx w' p 50 [u] ∧ Own w' base 5 1 u 256 (bs'.map u8v) ∧ Rep bs' L ∧ RowOr u (pgRow p n vb) w.heap.size) := by
  rcases hP with ⟨rfl, rfl, rfl, _⟩ | ⟨rfl, R⟩
  · exact (ready0_ret vb base p w hx O).mono fun v' w' ⟨E, hv, u, hx', O'⟩ => ⟨E, hv, u, newB, hx', O'.mono hbase, Rep.new, .inr fun k hk => (O'.lt k hk).1⟩
  · exact (ready1_ret bs vb base p w R.len hx O).mono fun v' w' ⟨hb, hv⟩ => ⟨grown_any (grown_of_below hb) _, hv, vb, bs, hx.keep0 (grown_of_below hb), O.keep0 (grown_of_below hb), R, .inl rfl⟩

end Go.Proofs.Ytdhpalioifjfbaa
