/- Small laws for walks, the sixteenth part: a region whose order is open, in which one's own list is read, and then written in a chain. -/
import Derived.Sort.AssemblyPlain
import Derived.Lib.SliceRun
import Derived.Lib.AppendZeros
import Derived.StillTail
import Derived.Test.YtpmnljffdofkeaaProg
import Derived.KernelRfl
import Derived.Test.YtpmnljffdofkeaaB1
namespace Go.Gx
open Go.RowKit
section
variable {P : Program} {ol : List Oper} {Q : Exit → Act → World → Prop} {Φ : Nat → Value → World → Prop} {C : Nat → Value → World → Prop} {ch : Chain} {R : World → World → Prop} {a0 : Act} {N : Nat}
def ObM (P : Program) (ol : List Oper) (Φ : Nat → Value → World → Prop) (C : Nat → Value → World → Prop) (ch : Chain) (a0 : Act) (N : Nat) (w0 : World) (R : World → World → Prop) (i : Nat) (o : Oper) : Prop :=
  ∀ (a : Act) (w : World) (c : Nat), a.tmps.size = N → R w0 w → c ≤ ch.ops.length → (∀ m k, ch.ops[m]? = some k → depB ol k i = true → c ≤ m) → C c (a.tmps.getD (ch.slot c) undef) w →
    (∀ t, safeB ol i t = true → a.tmps.getD t undef = a0.tmps.getD t undef) → (∀ j oj d, depB ol i j = true → ol[j]? = some oj → oj.dst = some d → Φ j (a.tmps.getD d undef) w) →
    wpList P ol.toArray (fun e a' w' => e = .normal ∧ (∃ d v, o.dst = some d ∧ a' = putsL a [(d, v)] ∧ Φ i v w') ∧ w.grownBy w' none) [o] (putsL a []) w
theorem region_mid_steps (hlex : lexB' ol = true) (hdn : dstNB ol N = true) (hdst : dstsB ol = true) (hch : ch.okB ol = true) (w0 : World)
    (hRt : ∀ w1 w2 w3, R w1 w2 → R w2 w3 → R w1 w3) (hR0 : ∀ w1 w2, w1.grownBy w2 none → R w1 w2)
    (hΦ : ∀ j u w1 w2, R w1 w2 → Φ j u w1 → Φ j u w2) (hC : ∀ c u w1 w2, w1.grownBy w2 none → C c u w1 → C c u w2)
    (obN : ∀ i o, ol[i]? = some o → ch.has i = false → ObM P ol Φ C ch a0 N w0 R i o) (obC : ∀ c i o, ch.ops[c]? = some i → ol[i]? = some o → ObC P ol Φ C ch a0 N w0 R c i o)
    (fin : ∀ a w, RInv ol Φ C ch a0 N w0 R (Array.replicate ol.length true) ch.ops.length a w → Q .normal a w) :
    ∀ (fuel : Nat) (listed : Array Bool) (c : Nat) (a : Act) (w : World), RInv ol Φ C ch a0 N w0 R listed c a w → (List.range ol.length).countP (fun i => !listed.getD i true) ≤ fuel → wpAny P .any ol.toArray Q fuel listed a w := by
  have hch' := hch
  simp only [Chain.okB, Bool.and_eq_true] at hch'
  obtain ⟨⟨⟨hc1, hc2⟩, hc3⟩, hc4⟩ := hch'
  have done : ∀ (listed : Array Bool) (c : Nat) (a : Act) (w : World), RInv ol Φ C ch a0 N w0 R listed c a w → Region.ready .any ol.toArray listed = [] → Q .normal a w := by
    intro listed c a w I hr
    have hall : ∀ i, i < ol.length → listed.getD i true = true := by
      intro i
      induction i using Nat.strongRecOn with
      | _ i ih =>
        intro hi
        by_cases hq : listed.getD i true = true
        · exact hq
        · exfalso
          have hm : i ∈ Region.ready .any ol.toArray listed := by
            rw [mem_ready]
            refine ⟨by simpa using hq, ol[i], by simp [hi], fun e he hb => ?_⟩
            have h1 := List.all_eq_true.1 hlex i (by simp [hi])
            simp only [List.getElem?_eq_getElem hi, Array.all_eq_true_iff_forall_mem, Bool.or_eq_true, Bool.not_eq_true', Nat.blt_eq] at h1
            have h2 := (h1 e he).resolve_left (by simp [hb])
            exact getD_true_lt (ih e.on h2 (by omega)) (by rw [I.lsize]; omega)
          rw [hr] at hm
          cases hm
    have hl : listed = Array.replicate ol.length true := by
      apply Array.ext
      · simp [I.lsize]
      · intro i h1 h2
        have := hall i (by simpa using h2)
        simp [Array.getD_eq_getD_getElem?, h1] at this
        simp [this]
    have hcc : c = ch.ops.length := by
      rcases Nat.lt_or_ge c ch.ops.length with h | h
      · exfalso
        have h1 := (I.chain c ch.ops[c] (by simp [h])).1 (hall _ (by
          have := List.all_eq_true.1 hc3 ch.ops[c] (List.getElem_mem h)
          simpa [Nat.blt_eq] using this))
        omega
      · exact Nat.le_antisymm I.cle h
    subst hl; subst hcc
    exact fin a w I
  intro fuel
  induction fuel with
  | zero =>
    intro listed c a w I hcnt
    have hr : Region.ready .any ol.toArray listed = [] := by
      rw [List.eq_nil_iff_forall_not_mem]
      intro i hi
      obtain ⟨h1, o, ho, _⟩ := mem_ready.1 hi
      have hlt : i < ol.length := by simpa using (Array.getElem?_eq_some_iff.1 ho).1
      have hz : (List.range ol.length).countP (fun i => !listed.getD i true) = 0 := by omega
      rw [List.countP_eq_zero] at hz
      exact hz i (by simp [hlt]) (by simp [h1])
    exact ⟨hr, done listed c a w I hr⟩
  | succ fuel ih =>
    intro listed c a w I hcnt
    refine ⟨fun hr => done listed c a w I hr, fun i hi => ?_⟩
    obtain ⟨hun, o, ho, hwait⟩ := mem_ready.1 hi
    have ho' : ol[i]? = some o := by simpa using ho
    have hlt : i < ol.length := (List.getElem?_eq_some_iff.1 ho').1
    have hls : i < listed.size := by rw [I.lsize]; exact hlt
    have hcnt' : (List.range ol.length).countP (fun j => !(listed.setIfInBounds i true).getD j true) ≤ fuel := by
      have : (List.range ol.length).countP (fun j => !(listed.setIfInBounds i true).getD j true) < (List.range ol.length).countP (fun j => !listed.getD j true) := by
        refine countP_lt _ _ (fun y hy => ?_) _ i (by simp [hlt]) (by simp [hun]) (by simp [Array.getD_eq_getD_getElem?, hls])
        by_cases hiy : i = y
        · subst hiy; simp [Array.getD_eq_getD_getElem?, hls] at hy
        · rwa [getD_set_ne true hiy] at hy
      omega
    have hbase : ∀ t, safeB ol i t = true → a.tmps.getD t undef = a0.tmps.getD t undef := by
      intro t ht
      refine I.base t fun j oj hj hlj hd => ?_
      have h1 := List.all_eq_true.1 ht oj (List.mem_of_getElem? hj)
      simp only [Bool.or_eq_true, bne_iff_ne, ne_eq, Array.any_eq_true, Bool.and_eq_true, beq_iff_eq] at h1
      rcases h1 with h1 | ⟨q, hq, h1, h2⟩
      · exact h1 hd
      · have := getD_of_false (I.closed j oj hj hlj _ (Array.getElem_mem hq) h2)
        rw [h1, hun] at this
        cases this
    have hdep : ∀ j oj d, depB ol i j = true → ol[j]? = some oj → oj.dst = some d → Φ j (a.tmps.getD d undef) w := by
      intro j oj d hj hoj hd
      obtain ⟨e, he, h1, h2⟩ := depB_spec ho' hj
      exact I.phi j oj d hoj (getD_of_false (by rw [← h1]; exact hwait e he h2)) hd
    have hset : ∀ j, j ≠ i → (listed.setIfInBounds i true).getD j true = listed.getD j true := fun j hj => getD_set_ne true (Ne.symm hj)
    have hseti : (listed.setIfInBounds i true).getD i true = true := by simp [Array.getD_eq_getD_getElem?, hls]
    have hclosed : ∀ j oj, ol[j]? = some oj → (listed.setIfInBounds i true).getD j true = true → ∀ e ∈ oj.after, Region.binds .any e = true → (listed.setIfInBounds i true).getD e.on false = true := by
      intro j oj hoj hlj e he hb
      refine getD_set_true ?_
      by_cases hji : j = i
      · subst hji
        rw [ho'] at hoj; cases hoj
        exact hwait e he hb
      · rw [hset j hji] at hlj
        exact I.closed j oj hoj hlj e he hb
    have hne : ∀ j oj d, ol[j]? = some oj → j ≠ i → o.dst = some d → oj.dst ≠ some d := by
      intro j oj d hoj hji hd hd'
      have hj : j < ol.length := (List.getElem?_eq_some_iff.1 hoj).1
      have h1 := List.all_eq_true.1 (List.all_eq_true.1 hdst i (by simp [hlt])) j (by simp [hj])
      simp only [ho', hoj, Bool.or_eq_true, beq_iff_eq, bne_iff_ne, ne_eq] at h1
      rcases h1 with h1 | h1 | h1
      · exact hji h1.symm
      · exact h1 (by rw [hd, hd'])
      · rw [hd] at h1; cases h1
    -- what is left of the frame, behind a value in slot d
    have hframe : ∀ d v w', o.dst = some d → R w w' → Φ i v w' → 
        (∀ t, (∀ j oj, ol[j]? = some oj → (listed.setIfInBounds i true).getD j true = true → oj.dst ≠ some t) → (putsL a [(d, v)]).tmps.getD t undef = a0.tmps.getD t undef) ∧
        (∀ j oj d', ol[j]? = some oj → (listed.setIfInBounds i true).getD j true = true → oj.dst = some d' → Φ j ((putsL a [(d, v)]).tmps.getD d' undef) w') := by
      intro d v w' hd hR hv
      have hdN : d < a.tmps.size := by
        have h1 := List.all_eq_true.1 hdn o (List.mem_of_getElem? ho')
        simp only [hd, Nat.blt_eq] at h1
        rw [I.size]; exact h1
      refine ⟨fun t ht => ?_, fun j oj d' hoj hlj hd' => ?_⟩
      · have hdt : d ≠ t := fun e => ht i o ho' hseti (by rw [hd, e])
        rw [get_put_ne hdt]
        refine I.base t fun j oj hoj hlj => ?_
        by_cases hji : j = i
        · subst hji; rw [hun] at hlj; cases hlj
        · exact ht j oj hoj (by rw [hset j hji]; exact hlj)
      · by_cases hji : j = i
        · subst hji
          rw [ho'] at hoj; cases hoj
          rw [hd] at hd'; cases hd'
          rw [get_put_eq hdN]
          exact hv
        · rw [hset j hji] at hlj
          have : d ≠ d' := fun e => hne j oj d hoj hji hd (by rw [hd', e])
          rw [get_put_ne this]
          exact hΦ j _ w w' hR (I.phi j oj d' hoj hlj hd')
    by_cases hin : ch.has i = true
    · have hmem : i ∈ ch.ops := by simpa [Chain.has] using hin
      obtain ⟨c0, hc0, hci⟩ := List.getElem_of_mem hmem
      have hci' : ch.ops[c0]? = some i := by simp [hc0, hci]
      have hcc : c0 = c := by
        have h1 : ¬ c0 < c := fun h => by
          have := (I.chain c0 i hci').2 h
          rw [hun] at this; cases this
        rcases Nat.lt_or_ge c c0 with h2 | h2
        · exfalso
          have h3 := List.all_eq_true.1 hc1 c0 (by simp [hc0])
          have hz : (c0 == 0) = false := by simp; omega
          have hp : ch.ops.getD (c0 - 1) 0 = ch.ops[c0 - 1] := by simp [List.getD_eq_getElem?_getD, show c0 - 1 < ch.ops.length by omega]
          have hq : ch.ops.getD c0 0 = i := by simp [List.getD_eq_getElem?_getD, hc0, hci]
          rw [hz, hp, hq, Bool.false_or] at h3
          obtain ⟨e, he, h4, h5⟩ := depB_spec ho' h3
          have h6 := getD_of_false (hwait e he h5)
          rw [h4] at h6
          have := (I.chain (c0 - 1) ch.ops[c0 - 1] (by simp [show c0 - 1 < ch.ops.length by omega])).1 h6
          omega
        · omega
      subst hcc
      refine wp_one (by simpa using ho') (obC c0 i o hci' ho' a w I.size I.rel hbase hdep I.chainC) fun a' w' h => ?_
      obtain ⟨h1, h2, h3⟩ := h
      have hchain : ∀ m i', ch.ops[m]? = some i' → ((listed.setIfInBounds i true).getD i' true = true ↔ m < c0 + 1) := by
        intro m i' hm
        by_cases hii : i' = i
        · subst hii
          have : m = c0 := by
            have hnd : ch.ops.Nodup := of_decide_eq_true hc4
            have hmlt : m < ch.ops.length := (List.getElem?_eq_some_iff.1 hm).1
            exact (List.getElem?_inj hmlt hnd).1 (by rw [hm, hci'])
          exact ⟨fun _ => by omega, fun _ => hseti⟩
        · rw [hset i' hii, I.chain m i' hm]
          refine ⟨fun h => by omega, fun h => ?_⟩
          rcases Nat.lt_or_ge m c0 with h' | h'
          · exact h'
          · have : m = c0 := by omega
            subst this
            rw [hci'] at hm; exact absurd (Option.some.inj hm).symm hii
      refine ih _ (c0 + 1) a' w' ?_ hcnt'
      rcases h1 with ⟨hd, rfl⟩ | ⟨d, v, hd, rfl, hv⟩
      · refine ⟨I.size, I.defers, fun t ht => ?_, fun j oj d' hoj hlj hd' => ?_, hclosed, by simp [I.lsize], by omega, hchain, h2, hRt _ _ _ I.rel h3⟩
        · refine I.base t fun j oj hoj hlj => ?_
          by_cases hji : j = i
          · subst hji; rw [hun] at hlj; cases hlj
          · exact ht j oj hoj (by rw [hset j hji]; exact hlj)
        · by_cases hji : j = i
          · subst hji
            rw [ho'] at hoj; cases hoj
            rw [hd] at hd'; cases hd'
          · rw [hset j hji] at hlj
            exact hΦ j _ w w' h3 (I.phi j oj d' hoj hlj hd')
      · obtain ⟨f1, f2⟩ := hframe d v w' hd h3 hv
        exact ⟨by rw [putsL_size, I.size], by rw [putsL_defers, I.defers], f1, f2, hclosed, by simp [I.lsize], by omega, hchain, h2, hRt _ _ _ I.rel h3⟩
    · have hin' : ch.has i = false := by simpa using hin
      have hck : ∀ m k, ch.ops[m]? = some k → depB ol k i = true → c ≤ m := by
        intro m k hm hdk
        rcases Nat.lt_or_ge m c with hlt2 | hge
        · exfalso
          have h1 := (I.chain m k hm).2 hlt2
          cases hok : ol[k]? with
          | none => simp [depB, hok] at hdk
          | some ok =>
            obtain ⟨e, he, h4, h5⟩ := depB_spec hok hdk
            have h6 := getD_of_false (I.closed k ok hok h1 e he h5)
            rw [h4, hun] at h6; cases h6
        · exact hge
      refine wp_one (by simpa using ho') (obN i o ho' hin' a w c I.size I.rel I.cle hck I.chainC hbase hdep) fun a' w' h => ?_
      obtain ⟨⟨d, v, hd, rfl, hv⟩, hg⟩ := h
      obtain ⟨f1, f2⟩ := hframe d v w' hd (hR0 _ _ hg) hv
      refine ih _ c _ w' ⟨by rw [putsL_size, I.size], by rw [putsL_defers, I.defers], f1, f2, hclosed, by simp [I.lsize], I.cle, ?_, ?_, hRt _ _ _ I.rel (hR0 _ _ hg)⟩ hcnt'
      · intro m i' hm
        have hii : i' ≠ i := by
          rintro rfl
          have : ch.has i' = true := by simpa [Chain.has] using List.mem_of_getElem? hm
          rw [hin'] at this; cases this
        rw [hset i' hii]
        exact I.chain m i' hm
      · have hsl : d ≠ ch.slot c := by
          intro he
          have h1 := List.all_eq_true.1 hc2 i (by simp [hlt])
          rw [hin', Bool.false_or] at h1
          simp only [ho'] at h1
          have h2 := List.all_eq_true.1 h1 c (by simp; have := I.cle; omega)
          simp only [hd, he, bne_self_eq_false, Bool.false_or, Bool.and_eq_true, Nat.blt_eq] at h2
          obtain ⟨e, he', h4, h5⟩ := depB_spec ho' h2.2
          have h6 := getD_of_false (hwait e he' h5)
          have hq : ch.ops.getD c 0 = ch.ops[c] := by simp [List.getD_eq_getElem?_getD, h2.1]
          rw [h4, hq] at h6
          have := (I.chain c ch.ops[c] (by simp [h2.1])).1 h6
          omega
        rw [get_put_ne hsl]
        exact hC c _ w w' hg I.chainC

/-- A region whose order is open; what is not of the chain is told how far the chain has come. -/
theorem reg_mid0 {id : Nat} (hm : P.follows .mixedOrders = true) (hlex : lexB' ol = true) (hdn : dstNB ol N = true) (hdst : dstsB ol = true) (hch : ch.okB ol = true)
    (hRr : ∀ w, R w w) (hRt : ∀ w1 w2 w3, R w1 w2 → R w2 w3 → R w1 w3) (hR0 : ∀ w1 w2, w1.grownBy w2 none → R w1 w2)
    (hΦ : ∀ j u w1 w2, R w1 w2 → Φ j u w1 → Φ j u w2) (hC : ∀ c u w1 w2, w1.grownBy w2 none → C c u w1 → C c u w2)
    {l : List (Nat × Value)} {w : World} (hN : a0.tmps.size = N) (hC0 : C 0 ((putsL a0 l).tmps.getD (ch.slot 0) undef) w)
    (obN : ∀ i o, ol[i]? = some o → ch.has i = false → ObM P ol Φ C ch (putsL a0 l) N w R i o) (obC : ∀ c i o, ch.ops[c]? = some i → ol[i]? = some o → ObC P ol Φ C ch (putsL a0 l) N w R c i o)
    (fin : ∀ a' w', a'.tmps.size = N → a'.defers = a0.defers → (∀ t, (ol.all fun o => o.dst != some t) = true → a'.tmps.getD t undef = (putsL a0 l).tmps.getD t undef) →
      (∀ j oj d, ol[j]? = some oj → oj.dst = some d → Φ j (a'.tmps.getD d undef) w') → C ch.ops.length (a'.tmps.getD (ch.slot ch.ops.length) undef) w' → R w w' → Q .normal (putsL a' []) w') :
    (Code.region id ol.toArray true).wp P Q (putsL a0 l) w := by
  refine wp_region_any hm ?_
  have hd : w.grownBy { w with drawn := w.drawn + 1 } none := ⟨rfl, rfl, rfl, Nat.le_refl _, fun _ _ _ => rfl⟩
  have I : RInv ol Φ C ch (putsL a0 l) N w R (Array.replicate ol.length false) 0 (putsL a0 l) { w with drawn := w.drawn + 1 } := by
    refine ⟨slN hN, rfl, fun _ _ => rfl, fun j o d hj hl => ?_, fun j o hj hl => ?_, by simp, Nat.zero_le _, fun m i hm => ?_, hC _ _ _ _ hd hC0, hR0 _ _ hd⟩
    · have : j < ol.length := (List.getElem?_eq_some_iff.1 hj).1
      simp [Array.getD_eq_getD_getElem?, this] at hl
    · have : j < ol.length := (List.getElem?_eq_some_iff.1 hj).1
      simp [Array.getD_eq_getD_getElem?, this] at hl
    · have h3 : i < ol.length := by
        have hch' := hch
        simp only [Chain.okB, Bool.and_eq_true] at hch'
        have := List.all_eq_true.1 hch'.1.2 i (List.mem_of_getElem? hm)
        simpa [Nat.blt_eq] using this
      simp [Array.getD_eq_getD_getElem?, h3]
  have := region_mid_steps (P := P) (Q := Q) hlex hdn hdst hch w hRt hR0 hΦ hC obN obC (fun a' w' J => fin a' w' J.size (by rw [J.defers, putsL_defers]) (fun t ht => J.base t fun j o hj _ hd => by
      have := List.all_eq_true.1 ht o (List.mem_of_getElem? hj)
      simp [hd] at this) (fun j oj d hj hd => J.phi j oj d hj (by
        have : j < ol.length := (List.getElem?_eq_some_iff.1 hj).1
        simp [Array.getD_eq_getD_getElem?, this]) hd) J.chainC J.rel) ol.length (Array.replicate ol.length false) 0 _ _ I (Nat.le_trans (List.countP_le_length) (by simp))
  simpa using this
end
section
variable {P : Program} {ol : List Oper} {Q : Exit → Act → World → Prop} {Φ : Nat → Value → World → Prop} {a0 : Act} {N : Nat} {base e sz n : Nat} {v : Value}
/-- What an operation that writes nothing must show: the list is one's own, with what it holds behind c stores. -/
def ObR (P : Program) (ol : List Oper) (Φ : Nat → Value → World → Prop) (CS : List (List Value)) (ops : List Nat) (base e sz n : Nat) (v : Value) (a0 : Act) (N : Nat) (w0 : World) (i : Nat) (o : Oper) : Prop :=
  ∀ (a : Act) (w : World) (c : Nat), a.tmps.size = N → w0.grownBy w v.ownBlock → (∀ m k, ops[m]? = some k → depB ol k i = true → c ≤ m) → Own w base e sz v n (CS.getD c []) →
    (∀ t, safeB ol i t = true → a.tmps.getD t undef = a0.tmps.getD t undef) → (∀ j oj d, depB ol i j = true → ol[j]? = some oj → oj.dst = some d → Φ j (a.tmps.getD d undef) w) →
    wpList P ol.toArray (fun e a' w' => e = .normal ∧ (∃ d v, o.dst = some d ∧ a' = putsL a [(d, v)] ∧ Φ i v w') ∧ w.grownBy w' none) [o] (putsL a []) w
/-- What a store must show. -/
def ObW (P : Program) (ol : List Oper) (Φ : Nat → Value → World → Prop) (CS : List (List Value)) (base e sz n : Nat) (v : Value) (a0 : Act) (N : Nat) (w0 : World) (c i : Nat) (o : Oper) : Prop :=
  ∀ (a : Act) (w : World), a.tmps.size = N → w0.grownBy w v.ownBlock → (∀ t, safeB ol i t = true → a.tmps.getD t undef = a0.tmps.getD t undef) → (∀ j oj d, depB ol i j = true → ol[j]? = some oj → oj.dst = some d → Φ j (a.tmps.getD d undef) w) → Own w base e sz v n (CS.getD c []) →
    wpList P ol.toArray (fun ex a' w' => ex = .normal ∧ ((o.dst = none ∧ a' = a) ∨ ∃ d v, o.dst = some d ∧ a' = putsL a [(d, v)] ∧ Φ i v w') ∧ Own w' base e sz v n (CS.getD (c + 1) []) ∧ w.grownBy w' v.ownBlock) [o] (putsL a []) w
theorem reg_mid {id : Nat} (ops : List Nat) (CS : List (List Value)) (hm : P.follows .mixedOrders = true) (hlex : lexB' ol = true) (hdn : dstNB ol N = true) (hdst : dstsB ol = true) (hch : (⟨ops, fun _ => N⟩ : Chain).okB ol = true)
    {l : List (Nat × Value)} {w : World} (hN : a0.tmps.size = N) (O : Own w base e sz v n (CS.getD 0 []))
    (hΦ : ∀ j u w1 w2, w1.grownBy w2 v.ownBlock → Φ j u w1 → Φ j u w2)
    (obR : ∀ i o, ol[i]? = some o → ops.contains i = false → ObR P ol Φ CS ops base e sz n v (putsL a0 l) N w i o) (obW : ∀ c i o, ops[c]? = some i → ol[i]? = some o → ObW P ol Φ CS base e sz n v (putsL a0 l) N w c i o)
    (fin : ∀ a' w', a'.tmps.size = N → a'.defers = a0.defers → (∀ t, (ol.all fun o => o.dst != some t) = true → a'.tmps.getD t undef = (putsL a0 l).tmps.getD t undef) →
      (∀ j oj d, ol[j]? = some oj → oj.dst = some d → Φ j (a'.tmps.getD d undef) w') → Own w' base e sz v n (CS.getD ops.length []) → w.grownBy w' v.ownBlock → Q .normal (putsL a' []) w') :
    (Code.region id ol.toArray true).wp P Q (putsL a0 l) w :=
  reg_mid0 (C := fun c _ w => Own w base e sz v n (CS.getD c [])) (ch := ⟨ops, fun _ => N⟩) (R := fun w1 w2 => w1.grownBy w2 v.ownBlock) hm hlex hdn hdst hch (fun w => grown_refl w _) (fun _ _ _ => grown_trans) (fun _ _ h => grown_any h _) hΦ
    (fun c u w1 w2 E h => h.keep0 E) hN O (fun i o hi hh => fun a w c h1 h2 _ h4 h5 h6 h7 => obR i o hi hh a w c h1 h2 h4 h5 h6 h7)
    (fun c i o hc hi => fun a w h1 h2 h3 h4 h5 => obW c i o hc hi a w h1 h2 h3 h4 h5)
    (fun a' w' h1 h2 h3 h4 h5 h6 => fin a' w' h1 h2 h3 h4 h5 h6)
end
section
variable {P : Program} {ol : List Oper} {Φ : Nat → Value → World → Prop} {CS : List (List Value)} {ops : List Nat} {a0 : Act} {N : Nat} {w0 : World} {base e sz n : Nat} {v : Value}
theorem obR_end {i d : Nat} {u : Value} {o : Oper} {op : Array Oper} {a : Act} {w w' : World} (hd : o.dst = some d) (hv : Φ i u w') (hg : w.grownBy w' none) :
    wpList P op (fun e a' w' => e = .normal ∧ (∃ d v, o.dst = some d ∧ a' = putsL a [(d, v)] ∧ Φ i v w') ∧ w.grownBy w' none) [] (putsL a [(d, u)]) w' := ⟨rfl, ⟨d, u, hd, rfl, hv⟩, hg⟩
theorem obW_end {c i : Nat} {o : Oper} {op : Array Oper} {a : Act} {w w' : World} (hd : o.dst = none) (hO : Own w' base e sz v n (CS.getD (c + 1) [])) (hg : w.grownBy w' v.ownBlock) :
    wpList P op (fun ex a' w' => ex = .normal ∧ ((o.dst = none ∧ a' = a) ∨ ∃ d v, o.dst = some d ∧ a' = putsL a [(d, v)] ∧ Φ i v w') ∧ Own w' base e sz v n (CS.getD (c + 1) []) ∧ w.grownBy w' v.ownBlock) [] (putsL a []) w' := ⟨rfl, .inl ⟨hd, rfl⟩, hO, hg⟩
def ObRs (P : Program) (ol : List Oper) (Φ : Nat → Value → World → Prop) (CS : List (List Value)) (ops : List Nat) (base e sz n : Nat) (v : Value) (a0 : Act) (N : Nat) (w0 : World) : Nat → List Oper → Prop
  | _, [] => True
  | i, o :: r => (ops.contains i = false → ObR P ol Φ CS ops base e sz n v a0 N w0 i o) ∧ ObRs P ol Φ CS ops base e sz n v a0 N w0 (i + 1) r
theorem ObRs.nil {i : Nat} : ObRs P ol Φ CS ops base e sz n v a0 N w0 i [] := trivial
theorem ObRs.cons {i : Nat} {o : Oper} {r : List Oper} (h : ObR P ol Φ CS ops base e sz n v a0 N w0 i o) (h' : ObRs P ol Φ CS ops base e sz n v a0 N w0 (i + 1) r) : ObRs P ol Φ CS ops base e sz n v a0 N w0 i (o :: r) := ⟨fun _ => h, h'⟩
theorem ObRs.pass {i : Nat} {o : Oper} {r : List Oper} (hh : ops.contains i = true) (h' : ObRs P ol Φ CS ops base e sz n v a0 N w0 (i + 1) r) : ObRs P ol Φ CS ops base e sz n v a0 N w0 i (o :: r) := ⟨fun h => absurd (hh.symm.trans h) (by decide), h'⟩
theorem ObRs.getx : ∀ {l : List Oper} {i : Nat}, ObRs P ol Φ CS ops base e sz n v a0 N w0 i l → ∀ j o, l[j]? = some o → ops.contains (i + j) = false → ObR P ol Φ CS ops base e sz n v a0 N w0 (i + j) o
  | [], _, _, j, o, h, _ => by simp at h
  | o' :: r, i, h, 0, o, hj, hs => by simp at hj; subst hj; exact h.1 hs
  | o' :: r, i, h, j + 1, o, hj, hs => by
    have := ObRs.getx h.2 j o (by simpa using hj) (by rwa [show i + 1 + j = i + (j + 1) by omega])
    rwa [show i + 1 + j = i + (j + 1) by omega] at this
theorem ObRs.get {l : List Oper} (h : ObRs P ol Φ CS ops base e sz n v a0 N w0 0 l) : ∀ j o, l[j]? = some o → ops.contains j = false → ObR P ol Φ CS ops base e sz n v a0 N w0 j o := fun j o hj hs => by
  have := ObRs.getx h j o hj (by rwa [Nat.zero_add])
  rwa [Nat.zero_add] at this
def ObWs (P : Program) (ol : List Oper) (Φ : Nat → Value → World → Prop) (CS : List (List Value)) (base e sz n : Nat) (v : Value) (a0 : Act) (N : Nat) (w0 : World) : Nat → List Nat → Prop
  | _, [] => True
  | c, i :: r => (∀ o, ol[i]? = some o → ObW P ol Φ CS base e sz n v a0 N w0 c i o) ∧ ObWs P ol Φ CS base e sz n v a0 N w0 (c + 1) r
theorem ObWs.nil {c : Nat} : ObWs P ol Φ CS base e sz n v a0 N w0 c [] := trivial
theorem ObWs.cons {c i : Nat} {r : List Nat} (h : ∀ o, ol[i]? = some o → ObW P ol Φ CS base e sz n v a0 N w0 c i o) (h' : ObWs P ol Φ CS base e sz n v a0 N w0 (c + 1) r) : ObWs P ol Φ CS base e sz n v a0 N w0 c (i :: r) := ⟨h, h'⟩
theorem ObWs.getx : ∀ {l : List Nat} {c : Nat}, ObWs P ol Φ CS base e sz n v a0 N w0 c l → ∀ m i o, l[m]? = some i → ol[i]? = some o → ObW P ol Φ CS base e sz n v a0 N w0 (c + m) i o
  | [], _, _, j, i, o, h, _ => by simp at h
  | o' :: r, c, h, 0, i, o, hj, ho => by simp at hj; subst hj; exact h.1 o ho
  | o' :: r, c, h, j + 1, i, o, hj, ho => by
    have := ObWs.getx h.2 j i o (by simpa using hj) ho
    rwa [show c + 1 + j = c + (j + 1) by omega] at this
theorem ObWs.get {l : List Nat} (h : ObWs P ol Φ CS base e sz n v a0 N w0 0 l) : ∀ m i o, l[m]? = some i → ol[i]? = some o → ObW P ol Φ CS base e sz n v a0 N w0 m i o := fun m i o hj ho => by
  have := ObWs.getx h m i o hj ho
  rwa [Nat.zero_add] at this
end
/-- What is told of an operation's value does not hang on the world. -/
def StW (row : Option Nat) : List (Value → World → Prop) → Prop := StL row
theorem StL.at {row : Option Nat} {v : Value} {q : Nat} {L : List (Value → World → Prop)} (h' : StL row L) : StL row ((fun u _ => ∃ b o, u = ptr b o ∧ AtV v q b o) :: L) := ⟨fun _ _ _ _ h => h, h'⟩
end Go.Gx

/- The sort, plainly: what stands in the library's plain layer, at tags; and the laws of its loop. -/
namespace Go.Proofs.Ytpmnljffdofkeaa
open Go.Gx Go.Sort Go.RowKit
abbrev Ar := Array UInt16
def ltT (x y : UInt16) : Bool := decide (x.toNat < y.toNat)
theorem swoT : SWO ltT where
  irrefl := fun x => by simp [ltT]
  trans := fun x y z h1 h2 => by simp [ltT] at *; omega
  ntrans := fun x y z h1 h2 => by simp [ltT] at *; omega
theorem el_arr {d : Ar} {e : Int} {i : Nat} (he : e = (i : Int)) (h : i < d.size) : (d.toList.map u16v)[e.toNat * 1 + 0]? = some (Value.int .u16 (d[i]!.toNat : Int)) := by
  subst he
  have e1 : d[i]! = d[i] := by simp [h]
  rw [e1]; simp [u16v, h]
theorem el_at {d : Ar} {i : Nat} (h : i < d.size) : (d.toList.map u16v)[i + 0]? = some (Value.int .u16 (d[i]!.toNat : Int)) := by
  have := el_arr (d := d) (e := (i : Int)) rfl h
  simpa using this
theorem set_arr {d : Ar} {i : Nat} {x : UInt16} (h : i < d.size) : (d.toList.map u16v).take i ++ [Value.int .u16 (x.toNat : Int)] ++ (d.toList.map u16v).drop (i + [Value.int .u16 (x.toNat : Int)].length) = (d.setIfInBounds i x).toList.map u16v := by
  have h' : i < d.toList.length := by simpa using h
  rw [Array.toList_setIfInBounds, List.set_eq_take_append_cons_drop, if_pos h']
  simp [u16v]
theorem ltT_t {x y : UInt16} (h : (x.toNat : Int) < (y.toNat : Int)) : ltT x y = true := decide_eq_true (by omega)
theorem ltT_f {x y : UInt16} (h : ¬ (x.toNat : Int) < (y.toNat : Int)) : ltT x y = false := decide_eq_false (by omega)
theorem swp_sz (d : Ar) (i j : Nat) : (swp d i j).size = d.size := size_swp d i j
/-! how many bits a number has -/
def tab8 : List UInt8 := [0, 1, 2, 2, 3, 3, 3, 3] ++ List.replicate 8 4 ++ List.replicate 16 5 ++ List.replicate 32 6 ++ List.replicate 64 7 ++ List.replicate 128 8
theorem tab8_len {z : Nat} (h : z < 256) : (tab8.getD z 0).toNat = bitsLen z := by
  have : ∀ i : Fin 256, (tab8.getD i.val 0).toNat = bitsLen i.val := by decide +kernel
  exact this ⟨z, h⟩
theorem tab8_sz : tab8.length = 256 := by decide +kernel
theorem bits_shift {n k : Nat} (h : 2 ^ k ≤ n) : bitsLen n = k + bitsLen (n / 2 ^ k) := by
  have key : ∀ m, bitsLen n ≤ m ↔ k + bitsLen (n / 2 ^ k) ≤ m := by
    intro m
    rw [bitsLen_le_iff]
    by_cases hm : m < k
    · constructor
      · intro h1
        have := Nat.pow_lt_pow_right (show 1 < 2 by decide) hm
        omega
      · intro h1; omega
    · obtain ⟨j, rfl⟩ : ∃ j, m = k + j := ⟨m - k, by omega⟩
      rw [show (k + bitsLen (n / 2 ^ k) ≤ k + j) ↔ bitsLen (n / 2 ^ k) ≤ j by omega, bitsLen_le_iff, Nat.div_lt_iff_lt_mul (Nat.two_pow_pos k), ← Nat.pow_add, Nat.add_comm j k]
  exact Nat.le_antisymm ((key _).2 (Nat.le_refl _)) ((key _).1 (Nat.le_refl _))
theorem bits_32 {n : Nat} (h : 4294967296 ≤ n) : bitsLen n = 32 + bitsLen (n / 4294967296) := bits_shift (k := 32) h
theorem bits_16 {n : Nat} (h : 65536 ≤ n) : bitsLen n = 16 + bitsLen (n / 65536) := bits_shift (k := 16) h
theorem bits_8 {n : Nat} (h : 256 ≤ n) : bitsLen n = 8 + bitsLen (n / 256) := bits_shift (k := 8) h
theorem shl_one {k : Nat} (h : k ≤ 62) : IntKind.u64.wrap (1 * 2 ^ (min ((k : Nat) : Int).toNat (IntKind.bits .u64))) = ((2 ^ k : Nat) : Int) := by
  have e : min ((k : Nat) : Int).toNat (IntKind.bits .u64) = k := by rw [Int.toNat_natCast]; exact Nat.min_eq_left (by show k ≤ 64; omega)
  rw [e, Int.one_mul]
  have h2 : 2 ^ k ≤ 2 ^ 62 := Nat.pow_le_pow_right (by decide) h
  have h3 : (2 : Nat) ^ 62 = 4611686018427387904 := by decide
  rw [show ((2 : Int) ^ k) = ((2 ^ k : Nat) : Int) by simp]
  rw [h3] at h2
  generalize (2 : Nat) ^ k = q at h2 ⊢
  exact wrap_u64 (by omega)
theorem xor_rng (x y : Int) : 0 ≤ bits .xor .u64 x y ∧ bits .xor .u64 x y ≤ 18446744073709551615 := by
  have : bits .xor .u64 x y = IntKind.u64.wrap ((BitVec.ofInt 64 x ^^^ BitVec.ofInt 64 y).toNat : Int) := rfl
  rw [this]
  simp only [IntKind.wrap, IntKind.bits, IntKind.signed]
  simp; omega
theorem and_64 {x y : Nat} (hx : x < 18446744073709551616) (hy : y < 18446744073709551616) : bits .and .u64 (x : Int) (y : Int) = ((x &&& y : Nat) : Int) := by
  have e1 : BitVec.ofInt 64 (x : Int) = BitVec.ofNat 64 x := BitVec.ofInt_natCast ..
  have e2 : BitVec.ofInt 64 (y : Int) = BitVec.ofNat 64 y := BitVec.ofInt_natCast ..
  show IntKind.u64.wrap ((BitVec.ofInt 64 (x : Int) &&& BitVec.ofInt 64 (y : Int)).toNat : Int) = _
  have := Nat.and_le_left (n := x) (m := y)
  rw [e1, e2, BitVec.toNat_and, BitVec.toNat_ofNat, BitVec.toNat_ofNat, Nat.mod_eq_of_lt (by omega), Nat.mod_eq_of_lt (by omega)]
  exact wrap_u64 (by omega)
/-! the loops of the sort -/
theorem insInner_go {a j : Nat} {d : Ar} (hj : a < j) (hl : ltT d[j]! d[j - 1]! = true) : insInner ltT a j d = insInner ltT a (j - 1) (swp d j (j - 1)) := by
  obtain ⟨k, rfl⟩ : ∃ k, j = k + 1 := ⟨j - 1, by omega⟩
  rw [insInner]
  simp only [Nat.add_sub_cancel] at hl ⊢
  simp [hj, hl]
theorem insInner_stop {a j : Nat} {d : Ar} (h : j ≤ a ∨ ltT d[j]! d[j - 1]! = false) : insInner ltT a j d = d := by
  cases j with
  | zero => rw [insInner]
  | succ k =>
    rw [insInner]
    simp only [Nat.add_sub_cancel] at h
    rcases h with h | h
    · simp [show ¬ k + 1 > a by omega]
    · simp [h]
theorem insOuter_go {a b i : Nat} {d : Ar} (h : i < b) : insOuter ltT a b i d = insOuter ltT a b (i + 1) (insInner ltT a i d) := by rw [insOuter, if_pos h]
theorem insOuter_stop {a b i : Nat} {d : Ar} (h : ¬ i < b) : insOuter ltT a b i d = d := by rw [insOuter, if_neg h]
theorem siftDown_stop {hi first root : Nat} {d : Ar} (h : hi ≤ 2 * root + 1) : siftDown ltT hi first root d = d := by rw [siftDown, dif_pos h]
/-- which child -/
def childS (hi first root : Nat) (d : Ar) : Nat := if 2 * root + 1 + 1 < hi && ltT d[first + (2 * root + 1)]! d[first + (2 * root + 1) + 1]! then 2 * root + 2 else 2 * root + 1
theorem siftDown_ret {hi first root : Nat} {d : Ar} (h : ¬ hi ≤ 2 * root + 1) (hl : ltT d[first + root]! d[first + childS hi first root d]! = false) : siftDown ltT hi first root d = d := by
  rw [siftDown, dif_neg h]
  unfold childS at hl
  split
  · rename_i hc; rw [if_pos hc] at hl; simp [hl]
  · rename_i hc; rw [if_neg hc] at hl; simp [hl]
theorem siftDown_go {hi first root : Nat} {d : Ar} (h : ¬ hi ≤ 2 * root + 1) (hl : ltT d[first + root]! d[first + childS hi first root d]! = true) : siftDown ltT hi first root d = siftDown ltT hi first (childS hi first root d) (swp d (first + root) (first + childS hi first root d)) := by
  rw [siftDown, dif_neg h]
  unfold childS at hl ⊢
  split
  · rename_i hc
    rw [if_pos hc] at hl
    try rw [if_pos hc]
    simp only [hl, Bool.not_true, Bool.false_eq_true, if_false]
    simp only [Bool.and_eq_true, decide_eq_true_eq] at hc
    rw [dif_pos (by omega)]
  · rename_i hc
    rw [if_neg hc] at hl
    try rw [if_neg hc]
    simp [hl]
theorem childS_lt {hi first root : Nat} {d : Ar} (h : ¬ hi ≤ 2 * root + 1) : childS hi first root d < hi ∧ root < childS hi first root d := by
  unfold childS
  split
  · rename_i hc; simp only [Bool.and_eq_true, decide_eq_true_eq] at hc; omega
  · omega
theorem childS_t {hi first root : Nat} {d : Ar} (h : 2 * root + 1 + 1 < hi) (hl : ltT d[first + (2 * root + 1)]! d[first + (2 * root + 1) + 1]! = true) : childS hi first root d = 2 * root + 2 := by
  rw [childS, if_pos (by simp [h, hl])]
theorem childS_f {hi first root : Nat} {d : Ar} (h : ¬ 2 * root + 1 + 1 < hi ∨ ltT d[first + (2 * root + 1)]! d[first + (2 * root + 1) + 1]! = false) : childS hi first root d = 2 * root + 1 := by
  rw [childS, if_neg (by rcases h with h | h <;> simp [h])]
theorem heapBuild_go {hi first k : Nat} {d : Ar} : heapBuild ltT hi first (k + 1) d = heapBuild ltT hi first k (siftDown ltT hi first k d) := rfl
theorem heapPop_go {first k : Nat} {d : Ar} : heapPop ltT first (k + 1) d = heapPop ltT first k (siftDown ltT k first 0 (swp d first (first + k))) := rfl
theorem heapBuild_go' {hi first k : Nat} {d : Ar} (h : 0 < k) : heapBuild ltT hi first k d = heapBuild ltT hi first (k - 1) (siftDown ltT hi first (k - 1) d) := by
  obtain ⟨j, rfl⟩ : ∃ j, k = j + 1 := ⟨k - 1, by omega⟩
  rfl
theorem heapPop_go' {first k : Nat} {d : Ar} (h : 0 < k) : heapPop ltT first k d = heapPop ltT first (k - 1) (siftDown ltT (k - 1) first 0 (swp d first (first + (k - 1)))) := by
  obtain ⟨j, rfl⟩ : ∃ j, k = j + 1 := ⟨k - 1, by omega⟩
  rfl
theorem tdiv2 {m : Nat} : (((m : Nat) : Int) - 1).tdiv 2 = (((m - 1) / 2 : Nat) : Int) := by
  cases m with
  | zero => rfl
  | succ m =>
    rw [show (((m + 1 : Nat) : Int) - 1) = (m : Int) by omega, Int.tdiv_eq_ediv_of_nonneg (by omega)]
    simp
theorem siftDown_sz : ∀ (n hi first root : Nat) (d : Ar), hi - root ≤ n → (siftDown ltT hi first root d).size = d.size
  | n, hi, first, root, d, hn => by
    by_cases h : hi ≤ 2 * root + 1
    · rw [siftDown_stop h]
    · rcases hl : ltT d[first + root]! d[first + childS hi first root d]! with _ | _
      · rw [siftDown_ret h hl]
      · have hc := childS_lt (first := first) (d := d) h
        cases n with
        | zero => omega
        | succ n => rw [siftDown_go h hl, siftDown_sz n _ _ _ _ (by omega), size_swp]
theorem scanUp_go {p : UInt16 → Bool} {d : Ar} {j i : Nat} (h : i ≤ j) (hp : p d[i]! = true) : scanUp p d j i = scanUp p d j (i + 1) := by rw [scanUp]; simp [h, hp]
theorem scanUp_stop {p : UInt16 → Bool} {d : Ar} {j i : Nat} (h : j < i ∨ p d[i]! = false) : scanUp p d j i = i := by
  rw [scanUp]; rcases h with h | h
  · simp [show ¬ i ≤ j by omega]
  · simp [h]
theorem scanDown_go {p : UInt16 → Bool} {d : Ar} {i j : Nat} (h0 : 0 < j) (h : i ≤ j) (hp : p d[j]! = true) : scanDown p d i j = scanDown p d i (j - 1) := by
  obtain ⟨k, rfl⟩ : ∃ k, j = k + 1 := ⟨j - 1, by omega⟩
  rw [scanDown]; simp [h, hp]
theorem scanDown_stop {p : UInt16 → Bool} {d : Ar} {i j : Nat} (h : j < i ∨ p d[j]! = false) : scanDown p d i j = j := by
  cases j with
  | zero => rw [scanDown]
  | succ k =>
    rw [scanDown]; rcases h with h | h
    · simp [show ¬ i ≤ k + 1 by omega]
    · simp [h]
theorem pe_stop {a i j i2 j2 : Nat} {d : Ar} (h1 : scanUp (fun x => !ltT d[a]! x) d j i = i2) (h2 : scanDown (fun x => ltT d[a]! x) d i2 j = j2) (h : j2 < i2) : partEqLoop ltT a i j d = (i2, d) := by
  rw [partEqLoop_eq, h1, h2, if_pos h]
theorem pe_go {a i j i2 j2 : Nat} {d : Ar} (h1 : scanUp (fun x => !ltT d[a]! x) d j i = i2) (h2 : scanDown (fun x => ltT d[a]! x) d i2 j = j2) (h : ¬ j2 < i2) : partEqLoop ltT a i j d = partEqLoop ltT a (i2 + 1) (j2 - 1) (swp d i2 j2) := by
  rw [partEqLoop_eq, h1, h2, if_neg h]
theorem pl_stop {a i j i2 j2 : Nat} {d : Ar} (h1 : scanUp (fun x => ltT x d[a]!) d j i = i2) (h2 : scanDown (fun x => !ltT x d[a]!) d i2 j = j2) (h : j2 < i2) : partLoop ltT a i j d = (j2, d) := by
  rw [partLoop_eq, h1, h2, if_pos h]
theorem pl_go {a i j i2 j2 : Nat} {d : Ar} (h1 : scanUp (fun x => ltT x d[a]!) d j i = i2) (h2 : scanDown (fun x => !ltT x d[a]!) d i2 j = j2) (h : ¬ j2 < i2) : partLoop ltT a i j d = partLoop ltT a (i2 + 1) (j2 - 1) (swp d i2 j2) := by
  rw [partLoop_eq, h1, h2, if_neg h]
theorem pt_stop {a b p i2 j2 : Nat} {d d1 : Ar} (hd : d1 = swp d a p) (h1 : scanUp (fun x => ltT x d1[a]!) d1 (b - 1) (a + 1) = i2) (h2 : scanDown (fun x => !ltT x d1[a]!) d1 i2 (b - 1) = j2) (h : j2 < i2) : partition ltT d a b p = (j2, true, swp d1 j2 a) := by
  subst hd
  simp only [partition, h1, h2]
  rw [if_pos h]
theorem pt_go {a b p i2 j2 : Nat} {d d1 : Ar} (hd : d1 = swp d a p) (h1 : scanUp (fun x => ltT x d1[a]!) d1 (b - 1) (a + 1) = i2) (h2 : scanDown (fun x => !ltT x d1[a]!) d1 i2 (b - 1) = j2) (h : ¬ j2 < i2) :
    partition ltT d a b p = ((partLoop ltT a (i2 + 1) (j2 - 1) (swp d1 i2 j2)).1, false, swp (partLoop ltT a (i2 + 1) (j2 - 1) (swp d1 i2 j2)).2 (partLoop ltT a (i2 + 1) (j2 - 1) (swp d1 i2 j2)).1 a) := by
  subst hd
  simp only [partition, h1, h2]
  rw [if_neg h]
theorem not_t {b : Bool} (h : (!b) = true) : b = false := by simpa using h
theorem not_f {b : Bool} (h : (!b) = false) : b = true := by simpa using h
theorem pi_true {a b s i i2 : Nat} {d : Ar} (hs : s < 5) (h : scanSorted ltT d b i = i2) (h2 : i2 = b) : partialIns ltT a b (5 - s) i d = (d, true) := by
  obtain ⟨k, hk⟩ : ∃ k, 5 - s = k + 1 := ⟨4 - s, by omega⟩
  rw [hk, partialIns_succ, h, if_pos h2]
theorem pi_short {a b s i i2 : Nat} {d : Ar} (hs : s < 5) (h : scanSorted ltT d b i = i2) (h2 : ¬ i2 = b) (h3 : b - a < 50) : partialIns ltT a b (5 - s) i d = (d, false) := by
  obtain ⟨k, hk⟩ : ∃ k, 5 - s = k + 1 := ⟨4 - s, by omega⟩
  rw [hk, partialIns_succ, h, if_neg h2, if_pos h3]
theorem pi_go {a b s i i2 : Nat} {d d3 d4 : Ar} (hs : s < 5) (h : scanSorted ltT d b i = i2) (h2 : ¬ i2 = b) (h3 : ¬ b - a < 50) (hd : d3 = fixDown ltT a i2 (swp d i2 (i2 - 1))) (hu : d4 = fixUp ltT b i2 d3) :
    partialIns ltT a b (5 - s) i d = partialIns ltT a b (5 - (s + 1)) i2 d4 := by
  obtain ⟨k, hk⟩ : ∃ k, 5 - s = k + 1 := ⟨4 - s, by omega⟩
  rw [hk, partialIns_succ, h, if_neg h2, if_neg h3, ← hd, ← hu, show 5 - (s + 1) = k by omega]
theorem fixDown_f {a i : Nat} {d : Ar} (h : ¬ 2 ≤ i - a) : fixDown ltT a i d = d := by rw [fixDown, if_neg (by omega)]
theorem fixDown_t {a i : Nat} {d : Ar} (h : 2 ≤ i - a) : fixDown ltT a i d = shiftDown ltT (i - 1) d := by rw [fixDown, if_pos (by omega)]
theorem fixUp_f {b i : Nat} {d : Ar} (h : ¬ 2 ≤ b - i) : fixUp ltT b i d = d := by rw [fixUp, if_neg (by omega)]
theorem fixUp_t {b i : Nat} {d : Ar} (h : 2 ≤ b - i) : fixUp ltT b i d = shiftUp ltT b (i + 1) d := by rw [fixUp, if_pos (by omega)]
theorem rev_go {i j : Nat} {d : Ar} (h : i < j) : reverseLoop i j d = reverseLoop (i + 1) (j - 1) (swp d i j) := by rw [reverseLoop, if_pos h]
theorem rev_stop {i j : Nat} {d : Ar} (h : ¬ i < j) : reverseLoop i j d = d := by rw [reverseLoop, if_neg h]
theorem scanSorted_go {d : Ar} {b i : Nat} (h : i < b) (hl : ltT d[i]! d[i - 1]! = false) : scanSorted ltT d b i = scanSorted ltT d b (i + 1) := by rw [scanSorted]; simp [h, hl]
theorem scanSorted_stop {d : Ar} {b i : Nat} (h : b ≤ i ∨ ltT d[i]! d[i - 1]! = true) : scanSorted ltT d b i = i := by
  rw [scanSorted]; rcases h with h | h
  · simp [show ¬ i < b by omega]
  · simp [h]
theorem shiftDown_go {j : Nat} {d : Ar} (h0 : 0 < j) (hl : ltT d[j]! d[j - 1]! = true) : shiftDown ltT j d = shiftDown ltT (j - 1) (swp d j (j - 1)) := by
  obtain ⟨k, rfl⟩ : ∃ k, j = k + 1 := ⟨j - 1, by omega⟩
  simp only [Nat.add_sub_cancel] at hl ⊢
  rw [shiftDown]; simp [hl]
theorem shiftDown_stop {j : Nat} {d : Ar} (h : j = 0 ∨ ltT d[j]! d[j - 1]! = false) : shiftDown ltT j d = d := by
  cases j with
  | zero => rw [shiftDown]
  | succ k => simp only [Nat.add_sub_cancel] at h; rw [shiftDown]; simp [h.resolve_left (by omega)]
theorem shiftUp_go {b j : Nat} {d : Ar} (h : j < b) (hl : ltT d[j]! d[j - 1]! = true) : shiftUp ltT b j d = shiftUp ltT b (j + 1) (swp d j (j - 1)) := by rw [shiftUp, if_pos h]; simp [hl]
theorem shiftUp_stop {b j : Nat} {d : Ar} (h : b ≤ j ∨ ltT d[j]! d[j - 1]! = false) : shiftUp ltT b j d = d := by
  rw [shiftUp]; rcases h with h | h
  · rw [if_neg (by omega)]
  · simp [h]
theorem siftDown_size {hi first root : Nat} {d : Ar} : (siftDown ltT hi first root d).size = d.size := siftDown_sz _ hi first root d (Nat.le_refl _)
abbrev PI (a b : Nat) (d d' : Ar) : Prop := PermIn a b d d'
theorem PI.sz {a b : Nat} {d d' : Ar} (h : PI a b d d') : d'.size = d.size := h.1
theorem PI.rfl' (a b : Nat) (d : Ar) : PI a b d d := permIn_refl d a b
theorem PI.tr {a b : Nat} {d d' d'' : Ar} (h : PI a b d d') (h' : PI a b d' d'') : PI a b d d'' := permIn_trans d d' d'' a b h h'
theorem PI.mono {a b a' b' : Nat} {d d' : Ar} (h : PI a b d d') (ha : a' ≤ a) (hb : b ≤ b') (hs : b' ≤ d.size) : PI a' b' d d' := permIn_mono d d' a b a' b' ha hb hs h
theorem PI.all {a b : Nat} {d d' : Ar} (h : PI a b d d') (hb : b ≤ d.size) (p : UInt16 → Prop) (hp : ∀ i, a ≤ i → i < b → p d[i]!) : ∀ i, a ≤ i → i < b → p d'[i]! := permIn_all d d' a b p hb h hp
theorem PI.swp {a b i j : Nat} {d : Ar} (h1 : a ≤ i) (h2 : i < b) (h3 : a ≤ j) (h4 : j < b) (hb : b ≤ d.size) : PI a b d (swp d i j) := swp_permIn d a b i j h1 h2 h3 h4 hb
theorem PI.below {a b : Nat} {d d' : Ar} (h : PI a b d d') (hb : b ≤ d.size) (hB : Go.Sort.Below ltT a b d) : Go.Sort.Below ltT a b d' := by
  rcases hB with hB | hB
  · exact .inl hB
  · by_cases ha : a = 0
    · exact .inl ha
    · refine .inr fun i h1 h2 => ?_
      have e : d'[a - 1]! = d[a - 1]! := h.2.1 (a - 1) (.inl (by omega))
      rw [e]
      exact h.all hb (fun x => ltT x d[a - 1]! = false) hB i h1 h2
/-- What is left to do, from places x to y, so that places a to b stand in order. -/
def Left (a b x y : Nat) (d : Ar) : Prop := ∀ d', PI x y d d' → SortedIn ltT x y d' → SortedIn ltT a b d'
theorem Left.start (a b : Nat) (d : Ar) : Left a b a b d := fun _ _ h => h
theorem Left.perm {a b x y : Nat} {d d1 : Ar} (h : Left a b x y d) (hp : PI x y d d1) : Left a b x y d1 := fun d' h1 h2 => h d' (hp.tr h1) h2
/-- The left part is of equal ones, none greater than any behind. -/
theorem Left.equal {a b x y m : Nat} {d d1 : Ar} {pv : UInt16} (h : Left a b x y d) (hp : PI x y d d1) (hxm : x ≤ m) (hmy : m ≤ y) (hy : y ≤ d.size)
    (h1 : ∀ i, x ≤ i → i < m → ltT pv d1[i]! = false) (h1' : ∀ i, x ≤ i → i < y → ltT d1[i]! pv = false) (h2 : ∀ i, m ≤ i → i < y → ltT pv d1[i]! = true) : Left a b m y d1 := by
  intro d' hp' hs
  refine h d' (hp.tr (hp'.mono hxm (Nat.le_refl _) (by rw [hp.sz]; exact hy))) fun i j hi hij hj => ?_
  have hb1 : y ≤ d1.size := by rw [hp.sz]; exact hy
  by_cases him : m ≤ i
  · exact hs i j him hij hj
  · have ei : d'[i]! = d1[i]! := hp'.2.1 i (.inl (by omega))
    rw [ei]
    have g1 := h1 i hi (by omega)
    have g1' := h1' i hi (by omega)
    by_cases hjm : m ≤ j
    · have g2 := hp'.all hb1 (fun z => ltT pv z = true) h2 j hjm hj
      simp [ltT] at *; omega
    · have ej : d'[j]! = d1[j]! := hp'.2.1 j (.inl (by omega))
      rw [ej]
      have g2 := h1 j (by omega) (by omega)
      have g2' := h1' j (by omega) hj
      simp [ltT] at *; omega
/-- One part is put in order, the other one is left: behind the partition at m. -/
theorem Left.right {a b x y m : Nat} {d d1 d2 : Ar} (h : Left a b x y d) (hp : PI x y d d1) (hxm : x ≤ m) (hmy : m < y) (hy : y ≤ d.size)
    (h1 : ∀ i, x ≤ i → i < m → ltT d1[i]! d1[m]! = true) (h2 : ∀ i, m < i → i < y → ltT d1[i]! d1[m]! = false) (hq : PI x m d1 d2) (hs : SortedIn ltT x m d2) : Left a b (m + 1) y d2 := by
  intro d' hp' hs'
  have hb1 : y ≤ d1.size := by rw [hp.sz]; exact hy
  have hb2 : y ≤ d2.size := by rw [hq.sz]; exact hb1
  have hq' := hq.mono (a' := x) (b' := y) (Nat.le_refl _) (by omega) hb1
  have e0 : d2[m]! = d1[m]! := hq.2.1 m (.inr (Nat.le_refl _))
  have e1 : d'[m]! = d1[m]! := (hp'.2.1 m (.inl (by omega))).trans e0
  have l1 : ∀ i, x ≤ i → i < m → ltT d'[i]! d1[m]! = true := fun i hi him => by
    have e : d'[i]! = d2[i]! := hp'.2.1 i (.inl (by omega))
    rw [e]; exact hq.all (by omega) (fun z => ltT z d1[m]! = true) h1 i hi him
  have l2 : ∀ i, m + 1 ≤ i → i < y → ltT d'[i]! d1[m]! = false := fun i hi hiy =>
    hp'.all hb2 (fun z => ltT z d1[m]! = false) (fun k hk hky => by
      have e : d2[k]! = d1[k]! := hq.2.1 k (.inr (by omega))
      rw [e]; exact h2 k (by omega) hky) i hi hiy
  refine h d' (hp.tr (hq'.tr (hp'.mono (by omega) (Nat.le_refl _) hb2))) fun i j hi hij hj => ?_
  rcases Nat.lt_trichotomy i m with him | him | him
  · rcases Nat.lt_trichotomy j m with hjm | hjm | hjm
    · have ei : d'[i]! = d2[i]! := hp'.2.1 i (.inl (by omega))
      have ej : d'[j]! = d2[j]! := hp'.2.1 j (.inl (by omega))
      rw [ei, ej]; exact hs i j hi hij hjm
    · subst hjm; rw [e1]; have := l1 i hi him; simp [ltT] at *; omega
    · have g1 := l1 i hi him; have g2 := l2 j (by omega) hj; simp [ltT] at *; omega
  · subst him; rw [e1]; exact l2 j (by omega) hj
  · exact hs' i j (by omega) hij hj
theorem Left.left {a b x y m : Nat} {d d1 d2 : Ar} (h : Left a b x y d) (hp : PI x y d d1) (hxm : x ≤ m) (hmy : m < y) (hy : y ≤ d.size)
    (h1 : ∀ i, x ≤ i → i < m → ltT d1[i]! d1[m]! = true) (h2 : ∀ i, m < i → i < y → ltT d1[i]! d1[m]! = false) (hq : PI (m + 1) y d1 d2) (hs : SortedIn ltT (m + 1) y d2) : Left a b x m d2 := by
  intro d' hp' hs'
  have hb1 : y ≤ d1.size := by rw [hp.sz]; exact hy
  have hb2 : y ≤ d2.size := by rw [hq.sz]; exact hb1
  have hq' := hq.mono (a' := x) (b' := y) (by omega) (Nat.le_refl _) hb1
  have e0 : d2[m]! = d1[m]! := hq.2.1 m (.inl (by omega))
  have e1 : d'[m]! = d1[m]! := (hp'.2.1 m (.inr (Nat.le_refl _))).trans e0
  have l1 : ∀ i, x ≤ i → i < m → ltT d'[i]! d1[m]! = true := fun i hi him =>
    hp'.all (by omega) (fun z => ltT z d1[m]! = true) (fun k hk hkm => by
      have e : d2[k]! = d1[k]! := hq.2.1 k (.inl (by omega))
      rw [e]; exact h1 k hk hkm) i hi him
  have l2 : ∀ i, m + 1 ≤ i → i < y → ltT d'[i]! d1[m]! = false := fun i hi hiy => by
    have e : d'[i]! = d2[i]! := hp'.2.1 i (.inr (by omega))
    rw [e]; exact hq.all hb1 (fun z => ltT z d1[m]! = false) (fun k hk hky => h2 k (by omega) hky) i hi hiy
  refine h d' (hp.tr (hq'.tr (hp'.mono (Nat.le_refl _) (by omega) hb2))) fun i j hi hij hj => ?_
  rcases Nat.lt_trichotomy i m with him | him | him
  · rcases Nat.lt_trichotomy j m with hjm | hjm | hjm
    · exact hs' i j hi hij hjm
    · subst hjm; rw [e1]; have := l1 i hi him; simp [ltT] at *; omega
    · have g1 := l1 i hi him; have g2 := l2 j (by omega) hj; simp [ltT] at *; omega
  · subst him; rw [e1]; exact l2 j (by omega) hj
  · have ei : d'[i]! = d2[i]! := hp'.2.1 i (.inr (by omega))
    have ej : d'[j]! = d2[j]! := hp'.2.1 j (.inr (by omega))
    rw [ei, ej]; exact hs i j (by omega) hij hj
end Go.Proofs.Ytpmnljffdofkeaa

/- Small laws for walks, the seventeenth part: the tail of one's own list, looked at while the list is written; clear; a list that is asked whether it is nil. -/
namespace Go.Gx
open Go.RowKit
section
variable {P : Program} {Q : Exit → Act → World → Prop} {a : Act} {w w' : World} {l : List (Nat × Value)} {ops : Array Oper} {rest : List Oper}
variable {d ty t : Nat} {p : String} {af : Array Edge} {x y : Operand} {v : Value} {n k L B base e by_ : Nat} {cs : List Value} {zv : Value}
/-- A list from its element k on. -/
def tailV (v : Value) (k : Nat) : Value := match v with | .slice (some ⟨b, off, none⟩) n c => .slice (some ⟨b, off + k, none⟩) (n - k) (c - k) | x => x
theorem RdC.tail (R : RdC w L B 1 v n cs) (h0 : 0 < n) (hk : k ≤ n) : RdC w L B 1 (tailV v k) (n - k) (cs.drop k) := by
  obtain ⟨hl, ad, c, rfl, hnc, hcm, hr⟩ := R
  rcases hr with rfl | ⟨b, off, rfl, h1, h2, hc⟩
  · simp at hl; omega
  · exact ⟨by simp; omega, _, _, rfl, by omega, by omega, .inr ⟨b, off + k, rfl, h1, h2, fun j u hj => by
      have := hc (k + j) u (by simpa using hj)
      rw [show off + k + j = off + (k + j) by omega]; exact this⟩⟩
theorem op_slice_tail {q : Operand} {kk : IntKind} (T : SlT P t e zv 1 by_) (hx : (putsL a l).eval x = v) (R : RdC w L B 1 v n cs) (h0 : 0 < n) (hq : (putsL a l).eval q = .int kk (k : Int)) (hk : k < n)
    (h : wpList P ops Q rest (putsL a ((d, tailV v k) :: l)) w) :
    wpList P ops Q (⟨some d, .slice t x (some q) none none, ty, p, af, none⟩ :: rest) (putsL a l) w := by
  obtain ⟨inf, hi, hz0, hz1, hz2⟩ := info_parts T.info
  obtain ⟨hl, ad, c, rfl, hnc, hcm, hr⟩ := R
  rcases hr with rfl | ⟨b, off, rfl, h1, h2, hc⟩
  · simp at hl; omega
  · have e1 : ¬ ((n : Int) < (k : Int)) := by omega
    have e2 : ¬ ((c : Int) < (n : Int)) := by omega
    have e3 : ¬ n < k := by omega
    have e4 : ¬ c < n := by omega
    refine op_gen (v := .slice (some ⟨b, off + k, none⟩) (n - k) (c - k)) rfl ?_ h
    simp [execOp, hx, hq, Instr.sliceAt, Instr.slice, run_underlying T.und, Instr.sliceBounds, Instr.sliceBound, asIntOf, sizeOf, typeInfo, hi, Addr.add_lit, hz1, Nat.le_of_lt hk, hnc]
    omega
theorem own_setCells {q g off n' cap : Nat} {vs : List Value} (O : Own w base e 1 (.slice (some ⟨g, off, none⟩) n cap) n cs) (hq : q + vs.length ≤ n) (h1 : vs.all Value.oneCell' = true) :
    Own (w.setCells g (off + q) vs) base e 1 (.slice (some ⟨g, off, none⟩) n cap) n (cs.take q ++ vs ++ cs.drop (q + vs.length)) ∧ (∀ j, j < vs.length → (w.cell? ⟨g, off + q + j, none⟩).isSome = true) ∧ (∀ j, j < vs.length → w.frozen? ⟨g, off + q + j, none⟩ = false) := by
  obtain ⟨hl, ⟨hv, _⟩ | ⟨g', off', cap', cur, fr, hv, hb, hg, hf, hnc, hcm, hfit, htk⟩⟩ := O
  · cases hv
  · injection hv with e1 e2 e3; injection e1 with e1; injection e1 with e1 e4; subst e1; subst e3; subst e4
    rw [Nat.mul_one] at hl hfit
    have hsz : off + q + vs.length ≤ cur.size := by omega
    refine ⟨⟨by simp; omega, .inr ⟨g, off, cap, setsAt cur (off + q) vs, fr, rfl, hb, heap_setCells g e fr vs (off + q) w cur hg, by rw [size_setsAt]; exact hf, hnc, hcm, by rw [size_setsAt]; omega, ?_⟩⟩, fun j hj => by simp [World.cell?, hg]; omega, fun j hj => by
      have := hf (off + q + j) (by omega)
      obtain ⟨lo, hi⟩ := fr
      simp only [World.frozen?, hg]
      simpa [Bool.and_eq_false_iff] using this⟩
    apply List.ext_getElem?
    intro j
    have hcs : ∀ j, cs[j]? = if j < n then cur[off + j]? else none := by
      intro j
      rw [← htk, List.getElem?_take, Nat.mul_one]
      split
      · rw [List.getElem?_drop]; simp
      · rfl
    rw [List.getElem?_take, List.getElem?_drop]
    simp only [Array.getElem?_toList, Nat.mul_one]
    rw [get_setsAt vs (off + q) cur (off + j) hsz]
    simp only [List.getElem?_append, List.length_append, List.length_take, List.getElem?_take, List.getElem?_drop, hcs]
    by_cases h1 : j < n
    · by_cases h2 : j < q
      · rw [if_pos h1, if_neg (by omega), if_pos (by omega), if_pos (by omega), if_pos h2, if_pos h1]
      · by_cases h3 : j < q + vs.length
        · rw [if_pos h1, if_pos (by omega), if_pos (by omega), if_neg (by omega), show off + j - (off + q) = j - min q cs.length by omega]
        · rw [if_pos h1, if_neg (by omega), if_neg (by omega), show q + vs.length + (j - (min q cs.length + vs.length)) = j by omega, if_pos h1]
    · rw [if_neg h1, if_neg (by omega), show q + vs.length + (j - (min q cs.length + vs.length)) = j by omega, if_neg h1]
theorem op_clear_tail {sT : Nat} (T : SlT P sT e zv 1 by_) (hz : zv.cells = #[zv]) (hz1 : zv.oneCell' = true) (hx : (putsL a l).eval x = tailV v k) (O : Own w base e 1 v n cs) (hk : k < n)
    (h : ∀ w', Own w' base e 1 v n (cs.take k ++ List.replicate (n - k) zv) → w.grownBy w' v.ownBlock → wpList P ops Q rest (putsL a l) w') :
    wpList P ops Q (⟨none, .call ⟨.builtin .clear, #[x], #[sT]⟩, ty, p, af, none⟩ :: rest) (putsL a l) w := by
  obtain ⟨inf, hi, hz0, hzz, hz2⟩ := info_parts T.info
  have hv : ∀ w, (zeroValue e).run P w = .ok zv w := fun w => by simp [zeroValue, typeInfo, hi, hz0]
  have O' := O
  obtain ⟨hl, ⟨rfl, rfl⟩ | ⟨g, off, cap, cur, fr, rfl, hb, hg, hf, hnc, hcm, hfit, htk⟩⟩ := O
  · omega
  · have hone : (List.replicate (n - k) zv).all Value.oneCell' = true := by simp [hz1]
    obtain ⟨g1, g2, g3⟩ := own_setCells (n' := 0) O' (q := k) (vs := List.replicate (n - k) zv) (by simp; omega) hone
    have hd : cs.drop (k + (List.replicate (n - k) zv).length) = [] := by rw [List.drop_eq_nil_of_le]; simp; omega
    rw [hd, List.append_nil] at g1
    have hrun := Lib.run_clear_slice (P := P) w sT e ty zv T.und hv hz hz1 g (off + k) (n - k) (cap - k) (by omega) (fun j hj => g2 j (by simpa using hj)) (fun j hj => g3 j (by simpa using hj))
    refine op_gen (v := .tuple #[]) (w' := w.setCells g (off + k) (List.replicate (n - k) zv)) rfl ?_ (h _ g1 (grown_setCells w g _ _))
    have hx' : (putsL a l).eval x = .slice (some ⟨g, off + k, none⟩) (n - k) (cap - k) := hx
    simp only [execOp, hx', resolve, invoke, builtin, Sem.run_bind, Sem.run_pure, Result.andThen_ok, List.map_toArray, List.map_cons, List.map_nil, hrun]
theorem RdC.cells {sz : Nat} (R : RdC w L B sz v n cs) : v.cells.toList = [v] := by
  obtain ⟨hl, ad, c, rfl, hnc, hcm, hr⟩ := R
  rfl
/-- one's own list that stood in an earlier world is read below that world's end -/
theorem Own.rdB {w0 : World} {sz base0 e0 sz0 n0 : Nat} {cs0 : List Value} (O : Own w base e sz v n cs) (O0 : Own w0 base0 e0 sz0 v n0 cs0) : RdC w base w0.heap.size sz v n cs := by
  obtain ⟨hl, ad, c, rfl, hnc, hcm, hr⟩ := O.rdw
  refine ⟨hl, ad, c, rfl, hnc, hcm, ?_⟩
  rcases hr with rfl | ⟨b, off, rfl, h1, h2, hc⟩
  · exact .inl rfl
  · exact .inr ⟨b, off, rfl, h1, (O0.lt b rfl).2, hc⟩
/-- whether a list is nil -/
theorem op_eql_nil {xt yt sz : Nat} (T : SlT P xt e zv sz by_) (hx : (putsL a l).eval x = v) (hy : (putsL a l).eval y = .slice none 0 0) (R : RdC w L B sz v n cs)
    (h1 : n = 0 → wpList P ops Q rest (putsL a ((d, .bool true) :: l)) w) (h2 : wpList P ops Q rest (putsL a ((d, .bool false) :: l)) w) :
    wpList P ops Q (⟨some d, .binOp .eql xt x y yt, ty, p, af, none⟩ :: rest) (putsL a l) w := by
  obtain ⟨hl, ad, c, rfl, hnc, hcm, hr⟩ := R
  have hrun : (execOp (putsL a l).eval (⟨some d, .binOp .eql xt x y yt, ty, p, af, none⟩ : Oper)).run P w = .ok (.value (.bool ad.isNone)) w := by
    have := Lib.run_eql_slice_nil (P := P) w xt e ad n c 0 0 T.und
    have hg : (eqGuard .eql xt x y (Value.slice ad n c) (Value.slice none 0 0)).run P w = .ok () w := by simp [eqGuard]
    simp only [execOp, hx, hy]
    simp [this, hg]
  cases ad with
  | none =>
    refine op_gen rfl hrun (h1 ?_)
    rcases hr with rfl | ⟨b, off, hv, _⟩
    · have hp := T.pos
      have hq : n * sz = 0 := by simpa using hl.symm
      rcases Nat.mul_eq_zero.1 hq with h | h
      · exact h
      · omega
    · cases hv
  | some ad => exact op_gen rfl hrun h2
/-- a function with what it holds -/
theorem op_mkfn {f : FuncId} {co : List Operand} {cv : List Value} (hm : argsEv (putsL a l).eval co cv) (h : wpList P ops Q rest (putsL a ((d, .func (.func f) #[] cv.toArray) :: l)) w) :
    wpList P ops Q (⟨some d, .makeFunc (.func f) #[] co.toArray, ty, p, af, none⟩ :: rest) (putsL a l) w := by
  refine op_gen rfl ?_ h
  have e : co.toArray.map (putsL a l).eval = cv.toArray := by rw [List.map_toArray, argsEv_map hm]
  simp [execOp, e, Instr.makeFunc]
end
end Go.Gx

/- Small laws for walks, the eighteenth part: append of zeros onto nothing, cuts of one's own lists. -/
namespace Go.Gx
open Go.RowKit
section
variable {P : Program} {Q : Exit → Act → World → Prop} {a : Act} {w w' : World} {l : List (Nat × Value)} {ops : Array Oper} {rest : List Oper}
variable {d ty t e : Nat} {p : String} {af : Array Edge} {x y : Operand} {v : Value} {k : IntKind} {n base sz by_ : Nat} {cs : List Value} {zv : Value}
theorem Ret.flip {f : FuncId} {args : Array Value} {A : Value → Prop} (h : Ret P f args w (fun v w' => A v ∧ w' = w)) : Ret P f args w (fun v w' => A v ∧ w = w') := h.mono fun _ _ h => ⟨h.1, h.2.symm⟩
theorem g_undef {o oj : Oper} {j dj dd : Nat} {b : Bool} (hg : o.guard = some (j, b)) (hj : ops[j]? = some oj) (hd : oj.dst = some dj) (hv : (putsL a l).eval (.tmp dj) = undef) (hdd : o.dst = some dd)
    (h : wpList P ops Q rest (putsL a ((dd, undef) :: l)) w) : wpList P ops Q (o :: rest) (putsL a l) w := by
  have hv' : (putsL a l).tmps.getD dj undef = undef := hv
  have hy : yielded ops (putsL a l).tmps j = none := by
    unfold yielded
    simp only [hj, Option.bind_some, hd]
    rw [Array.getD_eq_getD_getElem?] at hv'
    cases hq : (putsL a l).tmps[dj]? with
    | none => rfl
    | some v => rw [hq] at hv'; simp at hv'; subst hv'; rfl
  unfold wpList
  have h1 : Region.wanted o (yielded ops (putsL a l).tmps) = false := by
    simp [Region.wanted, hg, hy]
  simp only [h1, Bool.false_eq_true, if_false, hdd]
  exact h
theorem op_slice_nil {high : Operand} (T : SlT P t e zv sz by_) (hx : (putsL a l).eval x = .slice none 0 0) (hh : (putsL a l).eval high = .int k 0) (h : wpList P ops Q rest (putsL a ((d, .slice none 0 0) :: l)) w) :
    wpList P ops Q (⟨some d, .slice t x none (some high) none, ty, p, af, none⟩ :: rest) (putsL a l) w := by
  obtain ⟨inf, hi, hz0, hz1, hz2⟩ := info_parts T.info
  refine op_gen (v := .slice none 0 0) rfl ?_ h
  simp [execOp, hx, hh, Instr.sliceAt, Instr.slice, run_underlying T.und, Instr.sliceBounds, Instr.sliceBound, asIntOf, sizeOf, typeInfo, hi]
theorem op_append_zeros_nil {tn : Nat} {kn : IntKind} (T : SlT P t e zv sz by_) (htn : P.underlying tn = some (.int kn)) (hx : (putsL a l).eval x = .slice none 0 0) (hy : (putsL a l).eval y = .int k (n : Int)) (h0 : 0 < n) (h63 : (n : Int) ≤ 9223372036854775807) (h48 : n * by_ ≤ 281474976710656) (hbase : base ≤ w.heap.size)
    (h : ∀ v' w' cs, Own w' base e sz v' n cs → w.grownBy w' none → (∀ b, v'.ownBlock = some b → w.heap.size ≤ b) → wpList P ops Q rest (putsL a ((d, v') :: l)) w') :
    wpList P ops Q (⟨some d, .call ⟨.builtin .append, #[x, y], #[t, tn]⟩, ty, p, af, none⟩ :: rest) (putsL a l) w := by
  obtain ⟨i, hi, hz, hsize, hby⟩ := info_parts T.info
  subst hsize; subst hby
  have hpos := T.pos
  have hzs := T.zs
  have hr := Lib.run_append_nil_zeros (P := P) w t tn ty e i zv k kn T.und htn hi hz n h0 hpos h63 h48
  have hge := grownCap_ge w n 0 e
  have hcm : grownCap w n 0 e ≤ maxLen := grownCap_le_maxLen w n 0 e (by unfold maxLen; omega)
  refine op_gen (v := _) (w' := _) rfl (by simp only [execOp, hx, hy, resolve, invoke, builtin, Sem.run_bind, Sem.run_pure, Result.andThen_ok, List.map_toArray, List.map_cons, List.map_nil, hr]; rfl) (h _ _ (((Builtin.zeroCells zv.cells n ++ Builtin.zeroCells zv.cells (grownCap w n 0 e - n)).toList).take (n * i.size)) ?_ ?_ ?_)
  · refine ⟨?_, .inr ⟨w.heap.size, 0, _, _, (0, 0), rfl, hbase, heap_alloc_new w.drew _, by simp, hge, hcm, ?_, by simp⟩⟩
    · simp [size_zeroCells, hzs, Nat.le_add_right]
    · simp only [Array.size_append, size_zeroCells, hzs, ← Nat.add_mul, Nat.zero_add]
      exact Nat.le_of_eq (by congr 1; omega)
  · exact ⟨rfl, rfl, rfl, by simp, fun k hk _ => Below.heap_alloc w.drew _ k hk⟩
  · intro b hb
    simp [Value.ownBlock] at hb
    omega
theorem Own.cut (O : Own w base e sz v n cs) {m : Nat} (hm : m ≤ n) : ∃ v', (v = .slice none 0 0 ∧ v' = .slice none 0 0 ∨ ∃ g c, v = .slice (some g) n c ∧ v' = .slice (some g) m c) ∧ Own w base e sz v' m (cs.take (m * sz)) ∧ v'.ownBlock = v.ownBlock := by
  obtain ⟨hl, ⟨rfl, rfl⟩ | ⟨g, off, cap, cur, fr, rfl, hb, hg, hf, hnc, hcm, hfit, htk⟩⟩ := O
  · have : m = 0 := by omega
    subst this
    exact ⟨_, .inl ⟨rfl, rfl⟩, by simpa using Own.nil w base e sz, rfl⟩
  · have hle : m * sz ≤ n * sz := Nat.mul_le_mul_right _ hm
    exact ⟨_, .inr ⟨_, _, rfl, rfl⟩, ⟨by simp; omega, .inr ⟨g, off, cap, cur, fr, rfl, hb, hg, hf, by omega, hcm, hfit, by rw [← htk, List.take_take, Nat.min_eq_left hle]⟩⟩, rfl⟩
/-- one's own list, cut behind: it is one's own still -/
theorem op_slice_own_hi {high : Operand} {m : Nat} {r : Int} (T : SlT P t e zv sz by_) (hx : (putsL a l).eval x = v) (O : Own w base e sz v n cs) (hh : (putsL a l).eval high = .int k r) (hr : r = (m : Int)) (hm : m ≤ n)
    (h : ∀ v', Own w base e sz v' m (cs.take (m * sz)) → v'.ownBlock = v.ownBlock → wpList P ops Q rest (putsL a ((d, v') :: l)) w) :
    wpList P ops Q (⟨some d, .slice t x none (some high) none, ty, p, af, none⟩ :: rest) (putsL a l) w := by
  obtain ⟨inf, hi, hz0, hz1, hz2⟩ := info_parts T.info
  subst hr
  have O' := O
  obtain ⟨v', hv', O2, hob⟩ := O.cut hm
  obtain ⟨hl, ⟨rfl, rfl⟩ | ⟨g, off, cap, cur, fr, rfl, hb, hg, hf, hnc, hcm, hfit, htk⟩⟩ := O'
  · have h0 : m = 0 := by omega
    subst h0
    rcases hv' with ⟨_, rfl⟩ | ⟨g, c, hv, _⟩
    · refine op_gen (v := .slice none 0 0) rfl ?_ (h _ O2 hob)
      simp [execOp, hx, hh, Instr.sliceAt, Instr.slice, run_underlying T.und, Instr.sliceBounds, Instr.sliceBound, asIntOf, sizeOf, typeInfo, hi]
    · cases hv
  · rcases hv' with ⟨hv, _⟩ | ⟨g', c', hv, rfl⟩
    · cases hv
    · injection hv with e1 e2 e3; injection e1 with e1; subst e1; subst e3
      have hmc : m ≤ cap := by omega
      have hmc' : ¬ ((cap : Int) < (m : Int)) := by omega
      refine op_gen (v := .slice (some ⟨g, off, none⟩) m cap) rfl ?_ (h _ O2 hob)
      simp [execOp, hx, hh, Instr.sliceAt, Instr.slice, run_underlying T.und, Instr.sliceBounds, Instr.sliceBound, asIntOf, sizeOf, typeInfo, hi, Addr.add_lit, hmc]
end
end Go.Gx

/- Small laws for walks, the nineteenth part: regions of open order whose operations leave the world as it is, told in the text's order. -/
namespace Go.Gx
open Go.RowKit
/-- Operations that hand a value back, or halt. -/
def plainOp : Op → Bool
  | .move _ | .assign _ | .pick _ _ _ | .build _ _ | .load _ _ | .nilCheck _ | .binOp _ _ _ _ _ | .unOp _ _ _ | .convert _ _ _ | .slice _ _ _ _ _ | .fieldAddr _ _ _ | .field _ _ _ | .indexAddr _ _ _ | .index _ _ _ | .lookup _ _ _ _ | .makeFunc _ _ _ | .extract _ _ => true
  | .call ⟨.builtin .len, _, _⟩ | .call ⟨.builtin .cap, _, _⟩ | .call ⟨.builtin .min, _, _⟩ | .call ⟨.builtin .max, _, _⟩ => true
  | _ => false
def ValOrHalt (r : Result Next) : Prop := (∃ v w', r = .ok (.value v) w') ∨ ∃ x w', r = .halt x w'
theorem vh_bind {P : Program} {w : World} (s : Sem Value) : ValOrHalt ((do let v ← s; pure (Next.value v) : Sem Next).run P w) := by
  rw [Sem.run_bind]
  cases hs : s.run P w with
  | ok v w' => exact .inl ⟨v, w', by simp⟩
  | halt x w' => exact .inr ⟨x, w', by simp [Result.andThen]⟩
theorem vh_pure {P : Program} {w : World} (v : Value) : ValOrHalt ((pure (Next.value v) : Sem Next).run P w) := .inl ⟨v, w, by simp⟩
theorem vh_then {P : Program} {w : World} {α : Type} (s : Sem α) (f : α → Sem Next) (h : ∀ x w, ValOrHalt ((f x).run P w)) : ValOrHalt ((do let x ← s; f x : Sem Next).run P w) := by
  rw [Sem.run_bind]
  cases hs : s.run P w with
  | ok v w' => simpa using h v w'
  | halt x w' => exact .inr ⟨x, w', by simp [Result.andThen]⟩
theorem run_plain {P : Program} {ρ : Operand → Value} {w : World} {o : Oper} (h : plainOp o.op = true) : ValOrHalt ((execOp ρ o).run P w) := by
  obtain ⟨dst, op, ty, pos, af, g⟩ := o
  cases op <;> simp only [plainOp] at h <;> first | (cases h; done) | skip
  case move => exact vh_pure _
  case assign => exact vh_pure _
  case pick => exact vh_then _ _ fun _ _ => vh_pure _
  case nilCheck x =>
    simp only [execOp]
    split
    · exact .inr ⟨_, _, rfl⟩
    · exact .inr ⟨_, _, rfl⟩
    · exact .inr ⟨_, _, rfl⟩
    · split
      · exact .inr ⟨_, _, rfl⟩
      · refine vh_then _ _ fun _ _ => vh_then _ _ fun _ _ => ?_
        split
        · exact vh_then _ _ fun _ _ => vh_pure _
        · exact vh_pure _
      · exact vh_pure _
    · exact vh_pure _
  case call c =>
    obtain ⟨callee, ags, ts⟩ := c
    cases callee with
    | builtin b => cases b <;> simp only [plainOp] at h <;> first | (cases h; done) | exact vh_bind (Builtin.len_ ts ty (ags.map ρ)) | exact vh_bind (Builtin.cap_ ts ty (ags.map ρ)) | exact vh_bind (Builtin.min_ ts ty (ags.map ρ)) | exact vh_bind (Builtin.max_ ts ty (ags.map ρ))
    | value x => simp [plainOp] at h
    | invoke r n => simp [plainOp] at h
  all_goals exact vh_bind _
section
variable {P : Program} {Q : Exit → Act → World → Prop} {a : Act} {w w' : World} {l : List (Nat × Value)} {ops : Array Oper} {rest : List Oper} {K : Act → Prop}
variable {d ty xt yt t e : Nat} {p : String} {af : Array Edge} {x y z : Operand} {v u zv : Value} {k : IntKind} {m n r : Int}
theorem st_nil (h : K a) : wpStill P ops w K [] a := h
/-- one operation that leaves the world as it is: whatever its law says of what it puts -/
theorem st_any {S : Act → Prop} {o : Oper} {A : Act} (hp : plainOp o.op = true) (H : ∀ Q : Exit → Act → World → Prop, (∀ a', S a' → Q .normal a' w) → wpList P ops Q [o] A w) (h : ∀ a', S a' → wpStill P ops w K rest a') : wpStill P ops w K (o :: rest) A := by
  have G := H (fun e a' w' => e = .normal ∧ w' = w ∧ S a') fun a' hs => ⟨rfl, rfl, hs⟩
  unfold wpList at G
  unfold wpStill
  by_cases hw : Region.wanted o (yielded ops A.tmps) = true
  · rw [if_pos hw] at G ⊢
    rcases G with G | ⟨_, a1, w1, h1, _⟩
    · unfold Oper.wp at G
      unfold Oper.still
      rcases run_plain (P := P) (ρ := A.eval) (w := w) hp with ⟨v, w', hr⟩ | ⟨x, w', hr⟩
      · rw [hr] at G ⊢
        simp only [Oper.upon] at G
        obtain ⟨_, rfl, hs⟩ := (show Exit.normal = Exit.normal ∧ w' = w ∧ S (A.put o.dst v) from G)
        exact ⟨rfl, h _ hs⟩
      · rw [hr] at G
        exfalso
        cases x <;> simp only [Oper.upon] at G
        exact absurd G.1 (by simp)
    · cases h1
  · rw [if_neg hw] at G ⊢
    exact h _ (show Exit.normal = Exit.normal ∧ w = w ∧ S (A.put o.dst undef) from G).2.2
theorem st_step {o : Oper} {A B : Act} (hp : plainOp o.op = true) (H : ∀ Q : Exit → Act → World → Prop, wpList P ops Q [] B w → wpList P ops Q [o] A w) (h : wpStill P ops w K rest B) : wpStill P ops w K (o :: rest) A :=
  st_any (S := fun a' => a' = B) hp (fun Q hq => H Q (hq B rfl)) fun _ e => by subst e; exact h
theorem st_fork {c : Prop} {o : Oper} {A B1 B2 : Act} (hp : plainOp o.op = true) (H : ∀ Q : Exit → Act → World → Prop, (c → wpList P ops Q [] B1 w) → (¬ c → wpList P ops Q [] B2 w) → wpList P ops Q [o] A w)
    (h1 : c → wpStill P ops w K rest B1) (h2 : ¬ c → wpStill P ops w K rest B2) : wpStill P ops w K (o :: rest) A := by
  by_cases hc : c
  · exact st_step hp (fun Q hq => H Q (fun _ => hq) fun hn => absurd hc hn) (h1 hc)
  · exact st_step hp (fun Q hq => H Q (fun hy => absurd hy hc) fun _ => hq) (h2 hc)
theorem st_index_rd {L B sz c : Nat} {cs : List Value} {i : Int} {z : Value} {by_ : Nat} (T : SlT P xt e z sz by_) (hx : (putsL a l).eval x = v) (hr : RdC w L B sz v c cs) (hy : (putsL a l).eval y = .int k i) (h0 : 0 ≤ i) (h1 : i < (c : Int))
    (h : ∀ b off, L ≤ b → b < B → (∀ j u, j < sz → cs[i.toNat * sz + j]? = some u → w.cell? ⟨b, off + j, none⟩ = some u) → wpStill P ops w K rest (putsL a ((d, ptr b off) :: l))) :
    wpStill P ops w K (⟨some d, .indexAddr xt x y, ty, p, af, none⟩ :: rest) (putsL a l) :=
  st_any (S := fun a' => ∃ b off, (L ≤ b ∧ b < B ∧ ∀ j u, j < sz → cs[i.toNat * sz + j]? = some u → w.cell? ⟨b, off + j, none⟩ = some u) ∧ a' = putsL a ((d, ptr b off) :: l)) rfl
    (fun _ hq => op_index_rd T hx hr hy h0 h1 fun b off g1 g2 g3 => hq _ ⟨b, off, ⟨g1, g2, g3⟩, rfl⟩) fun _ ⟨b, off, ⟨g1, g2, g3⟩, e⟩ => by subst e; exact h b off g1 g2 g3
theorem st_index_own {n base sz by_ i : Nat} {cs : List Value} (T : SlT P xt e zv sz by_) (hx : (putsL a l).eval x = v) (O : Own w base e sz v n cs) (hy : (putsL a l).eval y = .int k r) (hr : r = (i : Int)) (h1 : i < n)
    (h : ∀ b o, base ≤ b → AtV v (i * sz) b o → wpStill P ops w K rest (putsL a ((d, ptr b o) :: l))) : wpStill P ops w K (⟨some d, .indexAddr xt x y, ty, p, af, none⟩ :: rest) (putsL a l) :=
  st_any (S := fun a' => ∃ b o, (base ≤ b ∧ AtV v (i * sz) b o) ∧ a' = putsL a ((d, ptr b o) :: l)) rfl (fun _ hq => op_index_own T hx O hy hr h1 fun b o g1 g2 => hq _ ⟨b, o, ⟨g1, g2⟩, rfl⟩) fun _ ⟨b, o, ⟨g1, g2⟩, e⟩ => by subst e; exact h b o g1 g2
theorem st_slice_rd {L B c lo hi sz by_ : Nat} {cs : List Value} {low high : Option Operand} (T : SlT P t e zv sz by_) (hx : (putsL a l).eval x = v) (hr : RdC w L B sz v c cs)
    (hlo : (low = none ∧ lo = 0) ∨ ∃ q k, low = some q ∧ (putsL a l).eval q = .int k (lo : Int)) (hhi : (high = none ∧ hi = c) ∨ ∃ q k, high = some q ∧ (putsL a l).eval q = .int k (hi : Int)) (h1 : lo ≤ hi) (h2 : hi ≤ c)
    (h : ∀ v', RdC w L B sz v' (hi - lo) ((cs.drop (lo * sz)).take ((hi - lo) * sz)) → wpStill P ops w K rest (putsL a ((d, v') :: l))) :
    wpStill P ops w K (⟨some d, .slice t x low high none, ty, p, af, none⟩ :: rest) (putsL a l) :=
  st_any (S := fun a' => ∃ v', RdC w L B sz v' (hi - lo) ((cs.drop (lo * sz)).take ((hi - lo) * sz)) ∧ a' = putsL a ((d, v') :: l)) rfl (fun _ hq => op_slice_rd T hx hr hlo hhi h1 h2 fun v' g => hq _ ⟨v', g, rfl⟩) fun _ ⟨v', g, e⟩ => by subst e; exact h v' g
/-- a call that hands one value back and leaves the world as it is -/
theorem st_fn {f : FuncId} {ags : List Operand} {ts : Array Nat} {vs : List Value} (hf : callOk P f = true) (hm : argsEv (putsL a l).eval ags vs) (hc : Ret P f vs.toArray w (fun v' w' => v' = v ∧ w' = w))
    (h : wpStill P ops w K rest (putsL a ((d, v) :: l))) : wpStill P ops w K (⟨some d, .call ⟨.value (.func f), ags.toArray, ts⟩, ty, p, af, none⟩ :: rest) (putsL a l) := by
  unfold wpStill
  rw [if_pos (show Region.wanted _ _ = true from rfl)]
  have he : (execOp (putsL a l).eval ⟨some d, .call ⟨.value (.func f), ags.toArray, ts⟩, ty, p, af, none⟩).run P w = .ok (.enter f vs.toArray) w := by
    show (callFunc f (#[] ++ ags.toArray.map (putsL a l).eval ++ #[])).run P w = _
    rw [List.map_toArray, argsEv_map hm, run_callFunc hf]; simp
  unfold Oper.still
  rw [he]
  exact ⟨rfl, v, Calls.mono hc fun e w' ⟨v', he, hv, hw⟩ => ⟨by rw [he, hv], hw⟩, h⟩
theorem st_g_true {o oj : Oper} {j dj : Nat} {b : Bool} (hg : o.guard = some (j, b)) (hj : ops[j]? = some oj) (hd : oj.dst = some dj) (hv : (putsL a l).eval (.tmp dj) = .bool b)
    (h : wpStill P ops w K (⟨o.dst, o.op, o.type, o.pos, o.after, none⟩ :: rest) (putsL a l)) : wpStill P ops w K (o :: rest) (putsL a l) := by
  have hv' : (putsL a l).tmps.getD dj undef = .bool b := hv
  have hy : yielded ops (putsL a l).tmps j = some b := by
    unfold yielded
    simp only [hj, Option.bind_some, hd]
    rw [Array.getD_eq_getD_getElem?] at hv'
    cases hq : (putsL a l).tmps[dj]? with
    | none => rw [hq] at hv'; simp [undef] at hv'
    | some v => rw [hq] at hv'; simp at hv'; subst hv'; rfl
  unfold wpStill at h ⊢
  have h1 : Region.wanted o (yielded ops (putsL a l).tmps) = true := by simp [Region.wanted, hg, hy]
  have h2 : Region.wanted ⟨o.dst, o.op, o.type, o.pos, o.after, none⟩ (yielded ops (putsL a l).tmps) = true := rfl
  rw [if_pos h2] at h
  rw [if_pos h1]
  exact h
theorem st_g_false {o oj : Oper} {j dj dd : Nat} {b c : Bool} (hg : o.guard = some (j, b)) (hj : ops[j]? = some oj) (hd : oj.dst = some dj) (hv : (putsL a l).eval (.tmp dj) = .bool c) (hne : (c == b) = false) (hdd : o.dst = some dd)
    (h : wpStill P ops w K rest (putsL a ((dd, undef) :: l))) : wpStill P ops w K (o :: rest) (putsL a l) := by
  have hv' : (putsL a l).tmps.getD dj undef = .bool c := hv
  have hy : yielded ops (putsL a l).tmps j = some c := by
    unfold yielded
    simp only [hj, Option.bind_some, hd]
    rw [Array.getD_eq_getD_getElem?] at hv'
    cases hq : (putsL a l).tmps[dj]? with
    | none => rw [hq] at hv'; simp [undef] at hv'
    | some v => rw [hq] at hv'; simp at hv'; subst hv'; rfl
  unfold wpStill
  have h1 : Region.wanted o (yielded ops (putsL a l).tmps) = false := by
    simp only [Region.wanted, hg, hy]
    cases c <;> cases b <;> simp_all
  simp only [h1, Bool.false_eq_true, if_false, hdd]
  exact h
theorem st_g_undef {o oj : Oper} {j dj dd : Nat} {b : Bool} (hg : o.guard = some (j, b)) (hj : ops[j]? = some oj) (hd : oj.dst = some dj) (hv : (putsL a l).eval (.tmp dj) = undef) (hdd : o.dst = some dd)
    (h : wpStill P ops w K rest (putsL a ((dd, undef) :: l))) : wpStill P ops w K (o :: rest) (putsL a l) := by
  have hv' : (putsL a l).tmps.getD dj undef = undef := hv
  have hy : yielded ops (putsL a l).tmps j = none := by
    unfold yielded
    simp only [hj, Option.bind_some, hd]
    rw [Array.getD_eq_getD_getElem?] at hv'
    cases hq : (putsL a l).tmps[dj]? with
    | none => rfl
    | some v => rw [hq] at hv'; simp at hv'; subst hv'; rfl
  unfold wpStill
  have h1 : Region.wanted o (yielded ops (putsL a l).tmps) = false := by
    simp [Region.wanted, hg, hy]
  simp only [h1, Bool.false_eq_true, if_false, hdd]
  exact h
theorem getD_mem {α : Type} {l : List α} {i : Nat} {d : α} (h : i < l.length) : l.getD i d ∈ l := by simp [h]
theorem el_ll {α : Type} {l : List (Value × α)} {e : Int} {i : Nat} {d : Value × α} (he : e = (i : Int)) (h : i < l.length) : (l.flatMap (fun x9 => [x9.1]))[e.toNat * 1 + 0]? = some (l.getD i d).1 := by
  subst he
  rw [flat_get (sz := 1) (by decide) l (fun _ _ => rfl)]
  simp [h, Nat.mod_one]
/-- the region, told in the text's order -/
theorem reg_still {id : Nat} {ol : List Oper} (hm : P.follows .mixedOrders = true) (hB : Region.lexB .any ol.toArray = true)
    (h : ∀ w', w.grownBy w' none → wpStill P ol.toArray w' (fun a' => Q .normal a' w') ol (putsL a l)) : (Code.region id ol.toArray true).wp P Q (putsL a l) w :=
  wp_region_still_lit hm hB (h _ ⟨rfl, rfl, rfl, Nat.le_refl _, fun _ _ _ => rfl⟩)
theorem reg_still_tail {id : Nat} {ol hd tl : List Oper} (n : Nat) (hm : P.follows .mixedOrders = true) (hB : Region.lexTailB .any ol.toArray n = true) (h1 : hd ++ tl = ol) (h2 : hd.length = n)
    (h : ∀ w', w.grownBy w' none → wpStill P ol.toArray w' (fun a' => wpList P ol.toArray Q tl a' w') hd (putsL a l)) : (Code.region id ol.toArray true).wp P Q (putsL a l) w :=
  wp_region_still_tail n hm hB (by rw [← h1, ← h2, List.take_left, List.drop_left, h1]; exact h _ ⟨rfl, rfl, rfl, Nat.le_refl _, fun _ _ _ => rfl⟩)
end
end Go.Gx

/- Small laws for walks, the twentieth part: a region whose first operations come in any order, and the others behind them, one by one. -/
namespace Go.Gx
open Go.RowKit
/-- A region's operations in any order. -/
def RegAny (P : Program) (ol : List Oper) (Q : Exit → Act → World → Prop) (a : Act) (w : World) : Prop :=
  wpAny P .any ol.toArray Q ol.length (Array.replicate ol.length false) a { w with drawn := w.drawn + 1 }
theorem reg_of_any {P : Program} {id : Nat} {ol : List Oper} {Q : Exit → Act → World → Prop} {a : Act} {w : World} (hm : P.follows .mixedOrders = true) (h : RegAny P ol Q a w) : (Code.region id ol.toArray true).wp P Q a w :=
  wp_region_any hm (by simpa [RegAny] using h)
/-- The first k operations are done; the others come in any order. -/
def AnyFrom (P : Program) (ol : List Oper) (Q : Exit → Act → World → Prop) (k : Nat) (a : Act) (w : World) : Prop :=
  wpAny P .any ol.toArray Q (ol.length - k) (Array.replicate k true ++ Array.replicate (ol.length - k) false) a w
/-- Those from m on wait for all below m. -/
def restB (ol : List Oper) (m : Nat) : Bool :=
  Region.sinkB .any ol.toArray m && (List.range ol.length).all (fun t => decide (t ≤ m) || (List.range ol.length).any fun s => decide (m ≤ s) && Region.waitsFor .any ol.toArray t s)
/-- What is asked of the parts: all of the first are waited for, and nothing of the others comes ahead of that. -/
def splitB (ol : List Oper) (m : Nat) : Bool :=
  Nat.blt m ol.length && restB ol m && lexB' ol && (ol.take m).all (fun o => match o.guard with | some (j, _) => Nat.blt j m | none => true)
section
variable {P : Program} {Q : Exit → Act → World → Prop} {A B : List Oper}
theorem upon_split {o : Oper} {a : Act} {w : World} {K K' : Act → World → Prop} {Q1 : Exit → Act → World → Prop} (hk : ∀ a w, K a w → K' a w) (hq : ∀ e a w, Q1 e a w → e = .normal) (h : o.wp P a w K Q1 ∨ (o.asks P a w ∧ LetsOut Q1)) : o.wp P a w K' Q ∨ (o.asks P a w ∧ LetsOut Q) := by
  rcases h with h | ⟨_, a1, w1, h1⟩
  · refine .inl ?_
    unfold Oper.wp at *
    generalize (execOp a.eval o).run P w = r at *
    cases r with
    | ok n w' =>
      cases n <;> simp only [Oper.upon] at h ⊢ <;>
        first
          | exact hk _ _ h
          | exact Calls.mono h (fun e w'' he => by
              cases e with
              | returned v => exact hk _ _ he
              | panicked c => exact absurd (hq _ _ _ he) (by simp)
              | outgrown => obtain ⟨a1, w1, h1⟩ := he; exact absurd (hq _ _ _ h1) (by simp))
          | exact Rows.mono h (fun _ _ he => hk _ _ he)
    | halt x w' => cases x <;> simp only [Oper.upon] at h ⊢ <;> exact absurd (hq _ _ _ h) (by simp)
  · exact absurd (hq _ _ _ h1) (by simp)
theorem get_left {i : Nat} (h : i < A.length) : (A ++ B).toArray[i]? = A.toArray[i]? := by simp [List.getElem?_append_left h]
theorem gd_left {listed : Array Bool} {n i : Nat} {d : Bool} (h : i < listed.size) : (listed ++ Array.replicate n false).getD i d = listed.getD i d := by
  simp [Array.getD_eq_getD_getElem?, Array.getElem?_append_left h]
theorem gd_right {listed : Array Bool} {n i : Nat} (h : listed.size ≤ i) : (listed ++ Array.replicate n false).getD i false = false := by
  rw [Array.getD_eq_getD_getElem?, Array.getElem?_append_right h]
  rcases Nat.lt_or_ge (i - listed.size) n with h1 | h1
  · simp [h1]
  · simp [h1]
theorem split_steps (hs : splitB (A ++ B) A.length = true) : ∀ (f : Nat) (listed : Array Bool) (a : Act) (w : World), listed.size = A.length →
    (∀ j o, A[j]? = some o → listed.getD j true = true → ∀ e ∈ o.after, Region.binds .any e = true → listed.getD e.on false = true) → (List.range A.length).countP (fun i => !listed.getD i true) = f →
    wpAny P .any A.toArray (fun e a w => e = .normal ∧ AnyFrom P (A ++ B) Q A.length a w) f listed a w → wpAny P .any (A ++ B).toArray Q (f + B.length) (listed ++ Array.replicate B.length false) a w := by
  simp only [splitB, restB, Bool.and_eq_true, Nat.blt_eq, List.length_append] at hs
  obtain ⟨⟨⟨hlt, hsink, hchain⟩, hlex⟩, hgd⟩ := hs
  have hlen : A.length + B.length - A.length = B.length := by omega
  rw [List.take_left] at hgd
  intro f
  induction f with
  | zero =>
    intro listed a w hsz hcl hc H
    have hall : listed = Array.replicate A.length true := by
      apply Array.ext
      · simp [hsz]
      · intro i h1 h2
        have hz := List.countP_eq_zero.1 hc i (by simpa using h2)
        simp [Array.getD_eq_getD_getElem?, h1] at hz
        simp [hz]
    subst hall
    have := H.2.2
    unfold AnyFrom at this
    rw [List.length_append, hlen] at this
    rwa [Nat.zero_add]
  | succ f ih =>
    intro listed a w hsz hcl hc H
    -- one of the first is not there yet
    have hex : ∃ i, i < A.length ∧ listed.getD i true = false := by
      refine Decidable.by_contra fun hn => ?_
      have : (List.range A.length).countP (fun i => !listed.getD i true) = 0 := by
        rw [List.countP_eq_zero]
        intro i hi hb
        exact hn ⟨i, by simpa using hi, by simpa using hb⟩
      omega
    have hloc : ∀ i, i < A.length → ∀ o, A[i]? = some o → ∀ e ∈ o.after, Region.binds .any e = true → e.on < i := by
      intro i hi o ho e he hb
      have h1 := List.all_eq_true.1 hlex i (by simp; omega)
      simp only [List.getElem?_append_left hi, ho, Array.all_eq_true_iff_forall_mem, Bool.or_eq_true, Bool.not_eq_true', Nat.blt_eq] at h1
      exact (h1 e he).resolve_left (by simp [hb])
    have hfirst : ∃ i, i ∈ Region.ready .any A.toArray listed := by
      obtain ⟨i, hi, hf⟩ := hex
      induction i using Nat.strongRecOn with
      | _ i ihi =>
        by_cases hr : i ∈ Region.ready .any A.toArray listed
        · exact ⟨i, hr⟩
        · rw [mem_ready] at hr
          have : ¬ ∀ e ∈ A[i].after, Region.binds .any e = true → listed.getD e.on false = true := fun hh => hr ⟨hf, A[i], by simp [hi], hh⟩
          simp only [Classical.not_forall] at this
          obtain ⟨e, he, hb, hne⟩ := this
          have hlo := hloc i hi A[i] (by simp [hi]) e he hb
          exact ihi e.on hlo (by omega) (by
            rw [← Bool.not_eq_true]; intro hh; exact hne (getD_true_lt hh (by omega)))
    -- what is ready, is one of the first
    have hready : ∀ i, i ∈ Region.ready .any (A ++ B).toArray (listed ++ Array.replicate B.length false) → i ∈ Region.ready .any A.toArray listed := by
      intro i hi
      obtain ⟨hun, o, ho, hw⟩ := mem_ready.1 hi
      rcases Nat.lt_or_ge i A.length with hia | hia
      · rw [gd_left (by omega)] at hun
        rw [get_left hia] at ho
        refine mem_ready.2 ⟨hun, o, ho, fun e he hb => ?_⟩
        have := hw e he hb
        have hlo := hloc i hia o (by simpa using ho) e he hb
        rwa [gd_left (by omega)] at this
      · exfalso
        rcases Nat.lt_or_ge A.length i with h1 | h1
        · have hin : i < A.length + B.length := by have := (Array.getElem?_eq_some_iff.1 ho).1; simpa using this
          have h2 := List.all_eq_true.1 hchain i (by simp; omega)
          simp only [Bool.or_eq_true, decide_eq_true_eq] at h2
          obtain ⟨q, hq1, hq2⟩ := List.any_eq_true.1 (h2.resolve_left (by omega))
          simp only [Bool.and_eq_true, decide_eq_true_eq] at hq2
          obtain ⟨oj, hoj, e, he, hb, hon⟩ := Region.waitsFor_spec hq2.2
          rw [ho] at hoj; cases hoj
          have := hw e he hb
          rw [hon, gd_right (by omega)] at this
          cases this
        · have : i = A.length := by omega
          subst this
          obtain ⟨i0, hi0, hf0⟩ := hex
          -- the last that is not there is waited for
          have hup : ∀ k i, A.length - i = k → i < A.length → listed.getD i true = false → False := by
            intro k
            induction k using Nat.strongRecOn with
            | _ k ihk =>
              intro i hk hi hf
              have h3 := List.all_eq_true.1 hsink i (by simpa using hi)
              obtain ⟨j, hj, h4⟩ := List.any_eq_true.1 h3
              simp only [Bool.and_eq_true, decide_eq_true_eq, List.mem_range] at h4 hj
              obtain ⟨oj, hoj, e, he, hb, hon⟩ := Region.waitsFor_spec h4.2
              rcases Nat.lt_or_ge j A.length with hja | hja
              · refine ihk (A.length - j) (by omega) j rfl hja ?_
                rw [← Bool.not_eq_true]
                intro hh
                rw [get_left hja] at hoj
                have := hcl j oj (by simpa using hoj) hh e he hb
                rw [hon] at this
                have h5 : listed.getD i true = true := by
                  rw [Array.getD_eq_getD_getElem?] at this ⊢
                  cases hq : listed[i]? with
                  | none => simp [hq] at this
                  | some b => simpa [hq] using this
                rw [hf] at h5; cases h5
              · have : j = A.length := by omega
                subst this
                rw [ho] at hoj; cases hoj
                have := hw e he hb
                rw [hon, gd_left (by omega)] at this
                have h5 : listed.getD i true = true := by
                  rw [Array.getD_eq_getD_getElem?] at this ⊢
                  cases hq : listed[i]? with
                  | none => simp [hq] at this
                  | some b => simpa [hq] using this
                rw [hf] at h5; cases h5
          exact hup _ i0 rfl hi0 hf0
    have hready' : ∀ i, i ∈ Region.ready .any A.toArray listed → i ∈ Region.ready .any (A ++ B).toArray (listed ++ Array.replicate B.length false) := by
      intro i hi
      obtain ⟨hun, o, ho, hw⟩ := mem_ready.1 hi
      have hia : i < A.length := by have := (Array.getElem?_eq_some_iff.1 ho).1; simpa using this
      refine mem_ready.2 ⟨by rw [gd_left (by omega)]; exact hun, o, by rw [get_left hia]; exact ho, fun e he hb => ?_⟩
      have hlo := hloc i hia o (by simpa using ho) e he hb
      rw [gd_left (by omega)]
      exact hw e he hb
    rw [show f + 1 + B.length = (f + B.length) + 1 by omega]
    refine ⟨fun hr => ?_, fun i hi => ?_⟩
    · obtain ⟨i, hi⟩ := hfirst
      have := hready' i hi
      rw [hr] at this
      cases this
    · have hiA := hready i hi
      have H2 := H.2 i hiA
      obtain ⟨hun, o, ho, hw⟩ := mem_ready.1 hiA
      have hia : i < A.length := by have := (Array.getElem?_eq_some_iff.1 ho).1; simpa using this
      have hoA : A[i]? = some o := by simpa using ho
      have hstep : ∀ a' w', wpAny P .any A.toArray (fun e a w => e = .normal ∧ AnyFrom P (A ++ B) Q A.length a w) f (listed.setIfInBounds i true) a' w' →
          wpAny P .any (A ++ B).toArray Q (f + B.length) ((listed ++ Array.replicate B.length false).setIfInBounds i true) a' w' := by
        intro a' w' hh
        have e1 : (listed ++ Array.replicate B.length false).setIfInBounds i true = listed.setIfInBounds i true ++ Array.replicate B.length false := by
          rw [Array.setIfInBounds_append_left (by omega)]
        rw [e1]
        refine ih _ a' w' (by simp [hsz]) (fun j oj hoj hl e he hb => ?_) ?_ hh
        · refine getD_set_true ?_
          by_cases hji : j = i
          · subst hji
            rw [hoA] at hoj; cases hoj
            exact hw e he hb
          · rw [getD_set_ne true (Ne.symm hji)] at hl
            exact hcl j oj hoj hl e he hb
        · have hc' : (List.range A.length).countP (fun j => !(listed.setIfInBounds i true).getD j true) + 1 = (List.range A.length).countP (fun j => !listed.getD j true) := by
            have hmem : i ∈ List.range A.length := by simpa using hia
            have hnd : (List.range A.length).Nodup := List.nodup_range
            generalize List.range A.length = L at hmem hnd
            clear hc H H2 hh ih
            induction L with
            | nil => cases hmem
            | cons x L ihL =>
              have hnd' := List.nodup_cons.1 hnd
              rw [List.countP_cons, List.countP_cons]
              rcases List.mem_cons.1 hmem with rfl | hm
              · have e2 : L.countP (fun j => !(listed.setIfInBounds i true).getD j true) = L.countP (fun j => !listed.getD j true) := by
                  refine List.countP_congr fun j hj => ?_
                  have hne : i ≠ j := fun e => hnd'.1 (by rw [e]; exact hj)
                  rw [getD_set_ne true hne]
                have e3 : (listed.setIfInBounds i true).getD i true = true := by simp [Array.getD_eq_getD_getElem?, hsz, hia]
                rw [e2, e3, hun]; simp
              · have hne : i ≠ x := fun e => hnd'.1 (by rw [← e]; exact hm)
                rw [getD_set_ne true hne]
                have := ihL hm hnd'.2
                omega
          omega
      unfold wpOp at H2 ⊢
      have hoAB : (A ++ B).toArray[i]? = some o := by rw [get_left hia]; exact ho
      simp only [ho, hoAB] at H2 ⊢
      have hy : Region.wanted o (yielded (A ++ B).toArray a.tmps) = Region.wanted o (yielded A.toArray a.tmps) := by
        have hg := List.all_eq_true.1 hgd o (List.mem_of_getElem? hoA)
        unfold Region.wanted
        cases hgu : o.guard with
        | none => rfl
        | some jb =>
          obtain ⟨j, b⟩ := jb
          simp only [hgu, Nat.blt_eq] at hg
          simp only [yielded, get_left (A := A) (B := B) hg]
      rw [hy]
      split
      · rename_i hwt
        rw [if_pos hwt] at H2
        exact upon_split hstep (fun e a w h => h.1) H2
      · rename_i hwt
        rw [if_neg hwt] at H2
        exact hstep _ _ H2
/-- The first part of a region in any order, then the others. -/
theorem reg_split {id : Nat} {ol hd tl : List Oper} {a : Act} {w : World} (m : Nat) (hm : P.follows .mixedOrders = true) (hs : splitB ol m = true) (h1 : hd ++ tl = ol) (h2 : hd.length = m)
    (h : RegAny P hd (fun e a w => e = .normal ∧ AnyFrom P ol Q m a w) a w) : (Code.region id ol.toArray true).wp P Q a w := by
  subst h1; subst h2
  refine reg_of_any hm ?_
  have := split_steps (P := P) (Q := Q) hs hd.length (Array.replicate hd.length false) a { w with drawn := w.drawn + 1 } (by simp) (fun j o hj hl => by
    have : j < hd.length := (List.getElem?_eq_some_iff.1 hj).1
    simp [Array.getD_eq_getD_getElem?, this] at hl) (by
    have : (List.range hd.length).countP (fun i => !(Array.replicate hd.length false).getD i true) = (List.range hd.length).length := by
      rw [List.countP_eq_length]
      intro i hi
      have hi' : i < hd.length := by simpa using hi
      simp [Array.getD_eq_getD_getElem?, hi']
    simpa using this) h
  unfold RegAny
  have e : Array.replicate (hd ++ tl).length false = Array.replicate hd.length false ++ Array.replicate tl.length false := by
    rw [List.length_append, Array.replicate_append_replicate]
  rw [e, List.length_append]
  exact this
theorem split_end {ol : List Oper} {m : Nat} {a : Act} {w : World} (h : AnyFrom P ol Q m a w) : (fun e a w => e = Exit.normal ∧ AnyFrom P ol Q m a w) .normal a w := ⟨rfl, h⟩
/-- A region from its beginning. -/
theorem reg_from {id : Nat} {ol : List Oper} {a : Act} {w : World} (hm : P.follows .mixedOrders = true) (h : ∀ w', w.grownBy w' none → AnyFrom P ol Q 0 a w') : (Code.region id ol.toArray true).wp P Q a w := by
  refine reg_of_any hm ?_
  have := h { w with drawn := w.drawn + 1 } ⟨rfl, rfl, rfl, Nat.le_refl _, fun _ _ _ => rfl⟩
  unfold AnyFrom at this
  unfold RegAny
  simpa using this
end
section
variable {P : Program} {ol : List Oper} {Q : Exit → Act → World → Prop} {Φ : Nat → Nat → Value → Value → World → Prop} {C : Nat → Value → World → Prop} {ch : Chain} {v0 : Value} {a0 : Act} {N : Nat}
theorem any_chain (ch : Chain) (v0 : Value) (hlex : lexB' ol = true) (hdn : dstNB ol N = true) (hdst : dstsB ol = true) (hch : ch.okB ol = true)
    {l : List (Nat × Value)} {w : World} (hN : a0.tmps.size = N)
    (hΦ0 : ∀ j c v u w1 w2, w1.grownBy w2 none → Φ j c v u w1 → Φ j c v u w2) (hΦ1 : ∀ j c v v' u w1 w2, c < ch.ops.length → StepC v v' w1 w2 → Φ j c v u w1 → Φ j (c + 1) v' u w2)
    (hC : ∀ c v w1 w2, w1.grownBy w2 none → C c v w1 → C c v w2) (hCl : ∀ c v w, C c v w → ∀ k, v.ownBlock = some k → k < w.heap.size)
    (hC0 : C 0 v0 w)
    (obN : ∀ i o, ol[i]? = some o → ch.has i = false → ObNc P ol Φ ch v0 (putsL a0 l) N w i o) (obC : ∀ c i o, ch.ops[c]? = some i → ol[i]? = some o → ObCc P ol Φ C ch v0 (putsL a0 l) N w c i o)
    (fin : ∀ a' w' v, a'.tmps.size = N → a'.defers = a0.defers → (∀ t, (ol.all fun o => o.dst != some t) = true → a'.tmps.getD t undef = (putsL a0 l).tmps.getD t undef) →
      (∀ j oj d, ol[j]? = some oj → oj.dst = some d → Φ j ch.ops.length v (a'.tmps.getD d undef) w') → C ch.ops.length v w' → w.grownBy w' v0.ownBlock → (v.ownBlock = v0.ownBlock ∨ ∀ k, v.ownBlock = some k → w.heap.size ≤ k) → Q .normal (putsL a' []) w') :
    RegAny P ol Q (putsL a0 l) w := by
  have hd : w.grownBy { w with drawn := w.drawn + 1 } none := ⟨rfl, rfl, rfl, Nat.le_refl _, fun _ _ _ => rfl⟩
  have I : RInc ol Φ C ch v0 (putsL a0 l) N w (Array.replicate ol.length false) 0 (putsL a0 l) { w with drawn := w.drawn + 1 } := by
    refine ⟨slN hN, rfl, fun _ _ => rfl, fun j o d hj hl => ?_, fun j o hj hl => ?_, by simp, Nat.zero_le _, fun m i hm => ?_, hC _ _ _ _ hd hC0, grown_any hd _, .inl rfl⟩
    · have : j < ol.length := (List.getElem?_eq_some_iff.1 hj).1
      simp [Array.getD_eq_getD_getElem?, this] at hl
    · have : j < ol.length := (List.getElem?_eq_some_iff.1 hj).1
      simp [Array.getD_eq_getD_getElem?, this] at hl
    · have h3 : i < ol.length := by
        have hch' := hch
        simp only [Chain.okB, Bool.and_eq_true] at hch'
        have := List.all_eq_true.1 hch'.1.2 i (List.mem_of_getElem? hm)
        simpa [Nat.blt_eq] using this
      simp [Array.getD_eq_getD_getElem?, h3]
  exact region_chain_steps (P := P) (Q := Q) hlex hdn hdst hch w hΦ0 hΦ1 hC hCl obN obC (fun a' w' J => fin a' w' _ J.size (by rw [J.defers, putsL_defers]) (fun t ht => J.base t fun j o hj _ hd => by
      have := List.all_eq_true.1 ht o (List.mem_of_getElem? hj)
      simp [hd] at this) (fun j oj d hj hd => J.phi j oj d hj (by
        have : j < ol.length := (List.getElem?_eq_some_iff.1 hj).1
        simp [Array.getD_eq_getD_getElem?, this]) hd) J.chainC J.rel J.own) ol.length (Array.replicate ol.length false) 0 _ _ I (Nat.le_trans (List.countP_le_length) (by simp))
end
section
variable {P : Program} {ol : List Oper} {Q : Exit → Act → World → Prop} {Φ : Nat → Value → World → Prop} {a0 : Act} {N : Nat} {l : List (Nat × Value)} {w : World}
theorem any_quiet (hlex : lexB' ol = true) (hdn : dstNB ol N = true) (hdst : dstsB ol = true) (hN : a0.tmps.size = N)
    (hΦ : ∀ j u w1 w2, w1.grownBy w2 none → Φ j u w1 → Φ j u w2)
    (obN : ∀ i o, ol[i]? = some o → ObN P ol Φ (putsL a0 l) N w (fun w1 w2 => w1.grownBy w2 none) i o)
    (fin : ∀ a' w', a'.tmps.size = N → a'.defers = a0.defers → (∀ t, (ol.all fun o => o.dst != some t) = true → a'.tmps.getD t undef = (putsL a0 l).tmps.getD t undef) →
      (∀ j oj d, ol[j]? = some oj → oj.dst = some d → Φ j (a'.tmps.getD d undef) w') → w.grownBy w' none → Q .normal (putsL a' []) w') : RegAny P ol Q (putsL a0 l) w := by
  have hd : w.grownBy { w with drawn := w.drawn + 1 } none := ⟨rfl, rfl, rfl, Nat.le_refl _, fun _ _ _ => rfl⟩
  have I : RInv ol Φ (fun _ _ _ => True) (noChain N) (putsL a0 l) N w (fun w1 w2 => w1.grownBy w2 none) (Array.replicate ol.length false) 0 (putsL a0 l) { w with drawn := w.drawn + 1 } := by
    refine ⟨slN hN, rfl, fun _ _ => rfl, fun j o d hj hl => ?_, fun j o hj hl => ?_, by simp, Nat.zero_le _, fun m i hm => by simp [noChain] at hm, trivial, hd⟩
    · have : j < ol.length := (List.getElem?_eq_some_iff.1 hj).1
      simp [Array.getD_eq_getD_getElem?, this] at hl
    · have : j < ol.length := (List.getElem?_eq_some_iff.1 hj).1
      simp [Array.getD_eq_getD_getElem?, this] at hl
  exact region_any_steps (P := P) (Q := Q) (Φ := Φ) (R := fun w1 w2 => w1.grownBy w2 none) (C := fun _ _ _ => True) (ch := noChain N) hlex hdn hdst (noChain_ok hdn) w (fun _ _ _ => grown_trans) (fun _ _ h => h) hΦ (fun _ _ _ _ _ h => h) (fun i o hi _ => obN i o hi) (fun c i o hc _ => by simp [noChain] at hc) (fun a' w' J => fin a' w' J.size (by rw [J.defers, putsL_defers]) (fun t ht => J.base t fun j o hj _ hd => by
      have := List.all_eq_true.1 ht o (List.mem_of_getElem? hj)
      simp [hd] at this) (fun j oj d hj hd => J.phi j oj d hj (by
        have : j < ol.length := (List.getElem?_eq_some_iff.1 hj).1
        simp [Array.getD_eq_getD_getElem?, this]) hd) J.rel) ol.length (Array.replicate ol.length false) 0 _ _ I (Nat.le_trans (List.countP_le_length) (by simp))
end
end Go.Gx

/- Small laws for walks, the twenty-first part: a region told part by part: single operations, and blocks in any order that leave the world as it is. -/
namespace Go.Gx
open Go.RowKit
def blockB (ol : List Oper) : Nat → Nat → Array Bool → Bool
  | 0, _, _ => true
  | n + 1, k, listed => (Region.ready .any ol.toArray listed).contains k && Region.free .any ol.toArray listed k && blockB ol n (k + 1) (listed.setIfInBounds k true)
/-- A block of n operations from k on. -/
def stillB (ol : List Oper) (k n : Nat) : Bool :=
  Region.noSelect ol.toArray && lexB' ol && Nat.ble (k + n) ol.length && (restB ol (k + n) || Nat.beq (k + n) ol.length) && blockB ol n k (Array.replicate k true ++ Array.replicate (ol.length - k) false)
def oneB (ol : List Oper) (k : Nat) : Bool := Nat.blt k ol.length && decide (Region.ready .any ol.toArray (Array.replicate k true ++ Array.replicate (ol.length - k) false) = [k])
section
variable {P : Program} {Q : Exit → Act → World → Prop} {ol : List Oper} {w : World}
theorem listed_set {k N : Nat} (h : k < N) : (Array.replicate k true ++ Array.replicate (N - k) false).setIfInBounds k true = Array.replicate (k + 1) true ++ Array.replicate (N - (k + 1)) false := by
  apply Array.ext
  · simp; omega
  · intro i h1 h2
    have h1' : i < (Array.replicate k true ++ Array.replicate (N - k) false).size := by simpa using h1
    rw [Array.getElem_setIfInBounds h1']
    by_cases hi : k = i
    · subst hi; rw [if_pos rfl, Array.getElem_append_left (by simp)]; simp
    · rw [if_neg hi]
      rcases Nat.lt_or_ge i k with h3 | h3
      · rw [Array.getElem_append_left (by simpa using h3), Array.getElem_append_left (by simp; omega)]; simp
      · rw [Array.getElem_append_right (by simpa using h3), Array.getElem_append_right (by simp; omega)]; simp
theorem from_end {a : Act} (h : Q .normal a w) {k : Nat} (hk : ol.length = k) : AnyFrom P ol Q k a w := by
  subst hk
  unfold AnyFrom
  rw [Nat.sub_self]
  refine ⟨?_, h⟩
  rw [List.eq_nil_iff_forall_not_mem]
  intro i hi
  obtain ⟨h1, o, ho, _⟩ := mem_ready.1 hi
  have hl : i < ol.length := by simpa using (Array.getElem?_eq_some_iff.1 ho).1
  simp [Array.getD_eq_getD_getElem?, hl] at h1
theorem from_one {a : Act} {k k' : Nat} {o : Oper} (hB : oneB ol k = true) (hk' : k + 1 = k') (ho : ol[k]? = some o) (h : wpList P ol.toArray (fun e a' w' => e = .normal ∧ AnyFrom P ol Q k' a' w') [o] a w) : AnyFrom P ol Q k a w := by
  subst hk'
  simp only [oneB, Bool.and_eq_true, Nat.blt_eq, decide_eq_true_eq] at hB
  obtain ⟨hk, hr⟩ := hB
  unfold AnyFrom
  obtain ⟨f, hf⟩ : ∃ f, ol.length - k = f + 1 := ⟨ol.length - k - 1, by omega⟩
  have e1 : ol.length - (k + 1) = f := by omega
  have key : wpAny P .any ol.toArray Q (f + 1) (Array.replicate k true ++ Array.replicate (ol.length - k) false) a w := by
    refine ⟨fun h0 => (by rw [hr] at h0; cases h0), fun i hi => ?_⟩
    rw [hr] at hi
    have : i = k := by simpa using hi
    subst this
    refine wp_one (by simpa using ho) h fun a' w' hh => ?_
    rw [listed_set hk]
    unfold AnyFrom at hh
    rw [e1] at hh ⊢
    exact hh
  have e2 : ∀ g, g = f + 1 → wpAny P .any ol.toArray Q g (Array.replicate k true ++ Array.replicate (ol.length - k) false) a w := fun g hg => by subst hg; exact key
  exact e2 _ hf
theorem from_next {a : Act} {k : Nat} (h : AnyFrom P ol Q k a w) : wpList P ol.toArray (fun e a' w' => e = .normal ∧ AnyFrom P ol Q k a' w') [] a w := ⟨rfl, h⟩
theorem from_seq {a : Act} {k : Nat} {tl : List Oper} (hk : k < ol.length) (hB : Region.seqB .any ol.toArray (ol.length - k) k (Array.replicate k true ++ Array.replicate (ol.length - k) false) = true) (h1 : ol.drop k = tl) (h : wpList P ol.toArray Q tl a w) : AnyFrom P ol Q k a w := by
  subst h1
  have hl : (ol.drop k).length = ol.length - k := by simp
  have := wpAny_of_seq (md := .any) (Q' := Q) (P := P) (ops := ol.toArray) (ol.drop k) k _ a w (fun j => by simp) (by rw [hl]; exact hB) h
  rw [hl] at this
  exact this
theorem rest_waits {m : Nat} {listed : Array Bool} (hr : restB ol m = true) (inv : HeadInv .any ol.toArray m listed) : ∀ (d i : Nat), m - i = d → i < m → listed.getD i true = false → ∀ t, m ≤ t → t ∉ Region.ready .any ol.toArray listed := by
  simp only [restB, Bool.and_eq_true] at hr
  obtain ⟨hs, hc⟩ := hr
  intro d
  induction d using Nat.strongRecOn with
  | _ d ih =>
    intro i hd hi hun t ht htr
    obtain ⟨_, ot, hot, hall⟩ := mem_ready.1 htr
    have htl : t < ol.length := by simpa using (Array.getElem?_eq_some_iff.1 hot).1
    rcases Nat.lt_or_ge m t with h1 | h1
    · have h2 := List.all_eq_true.1 hc t (List.mem_range.2 htl)
      simp only [Bool.or_eq_true, decide_eq_true_eq] at h2
      obtain ⟨s, hs1, hs2⟩ := List.any_eq_true.1 (h2.resolve_left (by omega))
      simp only [Bool.and_eq_true, decide_eq_true_eq] at hs2
      obtain ⟨o', ho', e, he, hb, hon⟩ := Region.waitsFor_spec hs2.2
      rw [hot] at ho'; cases ho'
      have h3 := hall e he hb
      rw [hon, getD_both (inv.tail s hs2.1 (by simpa using List.mem_range.1 hs1))] at h3
      cases h3
    · have : t = m := by omega
      subst this
      obtain ⟨j, hj, hj2⟩ := List.any_eq_true.1 (List.all_eq_true.1 hs i (List.mem_range.2 hi))
      simp only [Bool.and_eq_true, decide_eq_true_eq] at hj2
      obtain ⟨oj, hoj, e, he, hb, hon⟩ := Region.waitsFor_spec hj2.2
      have hjle := List.mem_range.1 hj
      by_cases hjt : j = t
      · subst hjt
        rw [hot] at hoj; cases hoj
        have h3 := hall e he hb
        rw [hon, getD_both hun] at h3
        cases h3
      · cases hl : listed.getD j false with
        | true =>
          have h3 := inv.closed j oj hoj hl e he hb
          rw [hon, getD_both hun] at h3
          cases h3
        | false => exact ih (t - j) (by omega) j rfl (by omega) (getD_in (by rw [inv.size]; simp; omega) hl) t (Nat.le_refl _) htr
/-- One operation of a block may be taken first. -/
theorem block_first {m i : Nat} {oi : Oper} {v : Value} {L : Array Bool → Act → Prop} (hi : ol.toArray[i]? = some oi) (hsel : ∀ (j : Nat) (o : Oper) cs b, ol.toArray[j]? = some o → o.op ≠ .select cs b)
    (hns : ∀ listed, HeadInv .any ol.toArray m listed → listed.getD i true = false → ∀ t, m ≤ t → t ∉ Region.ready .any ol.toArray listed) (hin : i < m) (hdone : ∀ listed a, L listed a → ∀ j ∈ Region.ready .any ol.toArray listed, m ≤ j) :
    ∀ (f : Nat) (listed : Array Bool) (a : Act), HeadInv .any ol.toArray m listed →
      (∀ j oj, ol.toArray[j]? = some oj → j ≠ i → listed.getD j true = false → (∀ e ∈ oj.after, Region.binds .any e = true → e.on ≠ i) → oi.apart ol.toArray oj = true) →
      i ∈ Region.ready .any ol.toArray listed → YieldsAt P ol.toArray w oi v a → wpAnyL P .any ol.toArray w m L f (listed.setIfInBounds i true) (a.put oi.dst v) → wpAnyL P .any ol.toArray w m L (f + 1) listed a := by
  intro f
  induction f with
  | zero =>
    intro listed a inv _ hr hy H
    have hun := (mem_ready.1 hr).1
    refine ⟨fun h => (by rw [h] at hr; cases hr), fun j hj => ?_⟩
    have hjm : j < m := Nat.lt_of_not_le fun h => hns listed inv hun j h hj
    refine ⟨hjm, ?_⟩
    by_cases hji : j = i
    · rw [hji]; exact hy.stOp hi H
    · exact absurd (hdone _ _ H j (ready_mono hj hji)) (by omega)
  | succ f ih =>
    intro listed a inv hfree hr hy H
    have hun := (mem_ready.1 hr).1
    refine ⟨fun h => (by rw [h] at hr; cases hr), fun j hj => ?_⟩
    have hjm : j < m := Nat.lt_of_not_le fun h => hns listed inv hun j h hj
    refine ⟨hjm, ?_⟩
    by_cases hji : j = i
    · rw [hji]; exact hy.stOp hi H
    · obtain ⟨hjun, oj, hoj, hall⟩ := mem_ready.1 hj
      have hap := hfree j oj hoj hji hjun fun e he hb heq => by
        have h9 := hall e he hb
        rw [heq, getD_both hun] at h9
        cases h9
      have h2 := stOp_put hoj hap (fun cs b => hsel i oi cs b hi) (fun cs b => hsel j oj cs b hoj) hy (H.2 j (ready_mono hj hji)).2
      refine stOp_mono (fun a' h3 => ih (listed.setIfInBounds j true) a' (inv.set hj hjm) (fun k ok hk hki huk hno => hfree k ok hk hki ?_ hno) (ready_mono hr (Ne.symm hji)) h3.1 ?_) h2
      · by_cases hjk : j = k
        · rw [← hjk]; exact hjun
        · rwa [getD_set_ne true hjk] at huk
      · rw [Array.setIfInBounds_comm _ _ hji]
        exact h3.2
theorem block_lex {m N : Nat} (hN : ol.length = N) (hsel : ∀ (j : Nat) (o : Oper) cs b, ol.toArray[j]? = some o → o.op ≠ .select cs b) (hns : ∀ i listed, i < m → HeadInv .any ol.toArray m listed → listed.getD i true = false → ∀ t, m ≤ t → t ∉ Region.ready .any ol.toArray listed)
    {K : Act → Prop} {L : Array Bool → Act → Prop} (hdone : ∀ listed a, L listed a → ∀ j ∈ Region.ready .any ol.toArray listed, m ≤ j) (hL : ∀ a, K a → L (Array.replicate m true ++ Array.replicate (N - m) false) a) (hmN : m ≤ N) :
    ∀ (l : List Oper) (k : Nat) (a : Act), (∀ j, j < l.length → l[j]? = ol[k + j]?) → k + l.length = m → HeadInv .any ol.toArray m (Array.replicate k true ++ Array.replicate (N - k) false) →
      blockB ol l.length k (Array.replicate k true ++ Array.replicate (N - k) false) = true → wpStill P ol.toArray w K l a → wpAnyL P .any ol.toArray w m L l.length (Array.replicate k true ++ Array.replicate (N - k) false) a
  | [], k, a, _, hk, _, _, h => by
    have : k = m := by simpa using hk
    subst this
    exact hL a h
  | o :: l, k, a, hl, hk, inv, hB, h => by
    have hkm : k < m := by simp only [List.length_cons] at hk; omega
    have h0 : ol.toArray[k]? = some o := by have := (hl 0 (by simp)).symm; simpa using this
    simp only [List.length_cons, blockB, Bool.and_eq_true] at hB
    obtain ⟨⟨hr, hf⟩, hB'⟩ := hB
    have hr' : k ∈ Region.ready .any ol.toArray (Array.replicate k true ++ Array.replicate (N - k) false) := by simpa using hr
    have hst : stOp P ol.toArray w k (wpStill P ol.toArray w K l) a := by unfold stOp; simp only [h0]; exact h
    obtain ⟨v, hy, hK⟩ := yieldsAt_of_stOp h0 hst
    have e := listed_set (k := k) (N := N) (by omega)
    rw [e] at hB'
    have inv' := inv.set hr' hkm
    rw [e] at inv'
    refine block_first h0 hsel (fun listed iv hu => hns k listed hkm iv hu) hkm hdone l.length _ a inv (Region.free_spec h0 hf) hr' hy ?_
    rw [e]
    exact block_lex hN hsel hns hdone hL hmN l (k + 1) _ (fun j hj => by have := hl (j + 1) (by simp; omega); simpa [Nat.add_assoc, Nat.add_comm 1 j] using this) (by simp only [List.length_cons] at hk; omega) inv' hB' hK
theorem from_still {a : Act} {k m : Nat} (n : Nat) {hd : List Oper} (hB : stillB ol k n = true) (hk' : k + n = m) (h1 : (ol.drop k).take n = hd) (h : wpStill P ol.toArray w (fun a' => AnyFrom P ol Q m a' w) hd a) : AnyFrom P ol Q k a w := by
  subst hk'
  simp only [stillB, Bool.and_eq_true, Nat.ble_eq, Bool.or_eq_true] at hB
  obtain ⟨⟨⟨⟨hsel, hlex⟩, hkn⟩, hrest⟩, hblk⟩ := hB
  have hlen : hd.length = n := by rw [← h1]; simp; omega
  have hidx : ∀ j, j < hd.length → hd[j]? = ol[k + j]? := fun j hj => by
    rw [← h1, List.getElem?_take, if_pos (by omega), List.getElem?_drop]
  have inv : HeadInv .any ol.toArray (k + n) (Array.replicate k true ++ Array.replicate (ol.length - k) false) := by
    refine ⟨by simp; omega, fun j oj hoj hl e he hb => ?_, fun t ht htl => ?_⟩
    · have hjl : j < ol.length := by simpa using (Array.getElem?_eq_some_iff.1 hoj).1
      have hjk : j < k := by
        rcases Nat.lt_or_ge j k with h3 | h3
        · exact h3
        · rw [gd_right (by simpa using h3)] at hl; cases hl
      have h4 := List.all_eq_true.1 hlex j (by simpa using hjl)
      have hoj' : ol[j]? = some oj := by simpa using hoj
      simp only [hoj', Array.all_eq_true_iff_forall_mem, Bool.or_eq_true, Bool.not_eq_true', Nat.blt_eq] at h4
      have h5 := (h4 e he).resolve_left (by simp [hb])
      rw [gd_left (by simp; omega)]
      simp [Array.getD_eq_getD_getElem?, show e.on < k by omega]
    · have htl' : t < ol.length := by simpa using htl
      rw [Array.getD_eq_getD_getElem?, Array.getElem?_append_right (by simp; omega)]
      simp [show t - k < ol.length - k by omega]
  have hns : ∀ i listed, i < k + n → HeadInv .any ol.toArray (k + n) listed → listed.getD i true = false → ∀ t, k + n ≤ t → t ∉ Region.ready .any ol.toArray listed := by
    intro i listed hi iv hu t ht htr
    rcases hrest with hr | he
    · exact rest_waits hr iv _ i rfl hi hu t ht htr
    · obtain ⟨_, ot, hot, _⟩ := mem_ready.1 htr
      have h6 : t < ol.length := by simpa using (Array.getElem?_eq_some_iff.1 hot).1
      have := Nat.eq_of_beq_eq_true he
      omega
  have H := block_lex (P := P) (w := w) (K := fun a' => AnyFrom P ol Q (k + n) a' w) (L := fun listed' a' => listed' = Array.replicate (k + n) true ++ Array.replicate (ol.length - (k + n)) false ∧ AnyFrom P ol Q (k + n) a' w) rfl (Region.noSelect_spec hsel) hns
    (fun listed a' hh j hj => by
      obtain ⟨rfl, _⟩ := hh
      obtain ⟨hju, oj, hoj, _⟩ := mem_ready.1 hj
      rcases Nat.lt_or_ge j (k + n) with h7 | h7
      · rw [gd_left (by simpa using h7)] at hju
        simp [Array.getD_eq_getD_getElem?, h7] at hju
      · exact h7) (fun a' hh => ⟨rfl, hh⟩) hkn hd k a hidx (by omega) inv (by rw [hlen]; exact hblk) h
  have := wpAny_of_head (P := P) (md := .any) (w := w) (Q' := Q) (g := ol.length - (k + n)) (fun listed a' hh => by obtain ⟨rfl, hh⟩ := hh; exact hh) _ _ _ H
  unfold AnyFrom
  rw [hlen, show n + (ol.length - (k + n)) = ol.length - k by omega] at this
  exact this
end
end Go.Gx

/- Closed facts on the types and functions of the translation, laid by a program. -/
namespace Go.Proofs.Ytpmnljffdofkeaa
open Go.Gx

theorem us1 : (Try.prog.underlying 1).isSome = true := by kernel_rfl
theorem one1 : oneT Try.prog 1 = true := by kernel_rfl
theorem size1 : (Try.prog.info? 1).map (·.size) = some 1 := by kernel_rfl
theorem us2 : (Try.prog.underlying 2).isSome = true := by kernel_rfl
theorem one2 : oneT Try.prog 2 = true := by kernel_rfl
theorem size2 : (Try.prog.info? 2).map (·.size) = some 1 := by kernel_rfl
theorem zero2 : zeroT Try.prog 2 = some (Value.int .i64 0) := by kernel_rfl
theorem us3 : (Try.prog.underlying 3).isSome = true := by kernel_rfl
theorem one3 : oneT Try.prog 3 = true := by kernel_rfl
theorem size3 : (Try.prog.info? 3).map (·.size) = some 1 := by kernel_rfl
theorem zero3 : zeroT Try.prog 3 = some (Value.int .i64 0) := by kernel_rfl
theorem us4 : (Try.prog.underlying 4).isSome = true := by kernel_rfl
theorem one4 : oneT Try.prog 4 = true := by kernel_rfl
theorem size4 : (Try.prog.info? 4).map (·.size) = some 1 := by kernel_rfl
theorem zero4 : zeroT Try.prog 4 = some (Value.bool false) := by kernel_rfl
theorem us5 : (Try.prog.underlying 5).isSome = true := by kernel_rfl
theorem one5 : oneT Try.prog 5 = true := by kernel_rfl
theorem size5 : (Try.prog.info? 5).map (·.size) = some 1 := by kernel_rfl
theorem zero5 : zeroT Try.prog 5 = some (Value.int .u8 0) := by kernel_rfl
theorem us6 : (Try.prog.underlying 6).isSome = true := by kernel_rfl
theorem one6 : oneT Try.prog 6 = true := by kernel_rfl
theorem size6 : (Try.prog.info? 6).map (·.size) = some 1 := by kernel_rfl
theorem zero6 : zeroT Try.prog 6 = some (Value.int .u8 0) := by kernel_rfl
theorem us7 : (Try.prog.underlying 7).isSome = true := by kernel_rfl
theorem agg7 : aggT Try.prog 7 = some 4 := by kernel_rfl
theorem fld7_0 : fieldT Try.prog 7 0 = some 0 := by kernel_rfl
theorem fld7_1 : fieldT Try.prog 7 1 = some 1 := by kernel_rfl
theorem fld7_2 : fieldT Try.prog 7 2 = some 2 := by kernel_rfl
theorem fld7_3 : fieldT Try.prog 7 3 = some 3 := by kernel_rfl
theorem size7 : (Try.prog.info? 7).map (·.size) = some 4 := by kernel_rfl
theorem zero7 : zeroT Try.prog 7 = some (Value.agg #[(Value.int .i64 0), (Value.int .i64 0), (Value.bool false), (Value.int .u8 0)]) := by kernel_rfl
theorem us8 : (Try.prog.underlying 8).isSome = true := by kernel_rfl
theorem agg8 : aggT Try.prog 8 = some 4 := by kernel_rfl
theorem fld8_0 : fieldT Try.prog 8 0 = some 0 := by kernel_rfl
theorem fld8_1 : fieldT Try.prog 8 1 = some 1 := by kernel_rfl
theorem fld8_2 : fieldT Try.prog 8 2 = some 2 := by kernel_rfl
theorem fld8_3 : fieldT Try.prog 8 3 = some 3 := by kernel_rfl
theorem size8 : (Try.prog.info? 8).map (·.size) = some 4 := by kernel_rfl
theorem zero8 : zeroT Try.prog 8 = some (Value.agg #[(Value.int .i64 0), (Value.int .i64 0), (Value.bool false), (Value.int .u8 0)]) := by kernel_rfl
theorem us9 : (Try.prog.underlying 9).isSome = true := by kernel_rfl
theorem one9 : oneT Try.prog 9 = true := by kernel_rfl
theorem size9 : (Try.prog.info? 9).map (·.size) = some 1 := by kernel_rfl
theorem zero9 : zeroT Try.prog 9 = some (Value.string (bs [])) := by kernel_rfl
theorem us10 : (Try.prog.underlying 10).isSome = true := by kernel_rfl
theorem one10 : oneT Try.prog 10 = true := by kernel_rfl
theorem size10 : (Try.prog.info? 10).map (·.size) = some 1 := by kernel_rfl
theorem zero10 : zeroT Try.prog 10 = some (Value.string (bs [])) := by kernel_rfl
theorem us11 : (Try.prog.underlying 11).isSome = true := by kernel_rfl
theorem one11 : oneT Try.prog 11 = true := by kernel_rfl
theorem size11 : (Try.prog.info? 11).map (·.size) = some 1 := by kernel_rfl
theorem zero11 : zeroT Try.prog 11 = some (Value.string (bs [])) := by kernel_rfl
theorem us12 : (Try.prog.underlying 12).isSome = true := by kernel_rfl
theorem one12 : oneT Try.prog 12 = true := by kernel_rfl
theorem size12 : (Try.prog.info? 12).map (·.size) = some 1 := by kernel_rfl
theorem zero12 : zeroT Try.prog 12 = some (Value.int .u64 0) := by kernel_rfl
theorem us13 : (Try.prog.underlying 13).isSome = true := by kernel_rfl
theorem agg13 : aggT Try.prog 13 = some 2 := by kernel_rfl
theorem fld13_0 : fieldT Try.prog 13 0 = some 0 := by kernel_rfl
theorem fld13_1 : fieldT Try.prog 13 1 = some 1 := by kernel_rfl
theorem size13 : (Try.prog.info? 13).map (·.size) = some 2 := by kernel_rfl
theorem zero13 : zeroT Try.prog 13 = some (Value.agg #[(Value.string (bs [])), (Value.int .u64 0)]) := by kernel_rfl
theorem us14 : (Try.prog.underlying 14).isSome = true := by kernel_rfl
theorem agg14 : aggT Try.prog 14 = some 2 := by kernel_rfl
theorem fld14_0 : fieldT Try.prog 14 0 = some 0 := by kernel_rfl
theorem fld14_1 : fieldT Try.prog 14 1 = some 1 := by kernel_rfl
theorem size14 : (Try.prog.info? 14).map (·.size) = some 2 := by kernel_rfl
theorem zero14 : zeroT Try.prog 14 = some (Value.agg #[(Value.string (bs [])), (Value.int .u64 0)]) := by kernel_rfl
theorem us15 : (Try.prog.underlying 15).isSome = true := by kernel_rfl
theorem one15 : oneT Try.prog 15 = true := by kernel_rfl
theorem size15 : (Try.prog.info? 15).map (·.size) = some 1 := by kernel_rfl
theorem zero15 : zeroT Try.prog 15 = some (Value.pointer none) := by kernel_rfl
theorem us16 : (Try.prog.underlying 16).isSome = true := by kernel_rfl
theorem one16 : oneT Try.prog 16 = true := by kernel_rfl
theorem size16 : (Try.prog.info? 16).map (·.size) = some 1 := by kernel_rfl
theorem zero16 : zeroT Try.prog 16 = some (Value.pointer none) := by kernel_rfl
theorem us17 : (Try.prog.underlying 17).isSome = true := by kernel_rfl
theorem one17 : oneT Try.prog 17 = true := by kernel_rfl
theorem size17 : (Try.prog.info? 17).map (·.size) = some 1 := by kernel_rfl
theorem zero17 : zeroT Try.prog 17 = some (Value.pointer none) := by kernel_rfl
theorem us18 : (Try.prog.underlying 18).isSome = true := by kernel_rfl
theorem agg18 : aggT Try.prog 18 = some 1 := by kernel_rfl
theorem fld18_0 : fieldT Try.prog 18 0 = some 0 := by kernel_rfl
theorem size18 : (Try.prog.info? 18).map (·.size) = some 1 := by kernel_rfl
theorem zero18 : zeroT Try.prog 18 = some (Value.agg #[(Value.pointer none)]) := by kernel_rfl
theorem us19 : (Try.prog.underlying 19).isSome = true := by kernel_rfl
theorem agg19 : aggT Try.prog 19 = some 1 := by kernel_rfl
theorem fld19_0 : fieldT Try.prog 19 0 = some 0 := by kernel_rfl
theorem size19 : (Try.prog.info? 19).map (·.size) = some 1 := by kernel_rfl
theorem zero19 : zeroT Try.prog 19 = some (Value.agg #[(Value.pointer none)]) := by kernel_rfl
theorem us21 : (Try.prog.underlying 21).isSome = true := by kernel_rfl
theorem one21 : oneT Try.prog 21 = true := by kernel_rfl
theorem size21 : (Try.prog.info? 21).map (·.size) = some 1 := by kernel_rfl
theorem zero21 : zeroT Try.prog 21 = some (Value.int .i32 0) := by kernel_rfl
theorem us22 : (Try.prog.underlying 22).isSome = true := by kernel_rfl
theorem one22 : oneT Try.prog 22 = true := by kernel_rfl
theorem slt22 : SlT Try.prog 22 35 (Value.int .u16 0) 1 2 := ⟨Try.underlying22, by kernel_rfl, rfl, by decide⟩
theorem size22 : (Try.prog.info? 22).map (·.size) = some 1 := by kernel_rfl
theorem zero22 : zeroT Try.prog 22 = some (Value.slice none 0 0) := by kernel_rfl
theorem us23 : (Try.prog.underlying 23).isSome = true := by kernel_rfl
theorem one23 : oneT Try.prog 23 = true := by kernel_rfl
theorem slt23 : SlT Try.prog 23 35 (Value.int .u16 0) 1 2 := ⟨Try.underlying23, by kernel_rfl, rfl, by decide⟩
theorem size23 : (Try.prog.info? 23).map (·.size) = some 1 := by kernel_rfl
theorem zero23 : zeroT Try.prog 23 = some (Value.slice none 0 0) := by kernel_rfl
theorem us24 : (Try.prog.underlying 24).isSome = true := by kernel_rfl
theorem one24 : oneT Try.prog 24 = true := by kernel_rfl
theorem size24 : (Try.prog.info? 24).map (·.size) = some 1 := by kernel_rfl
theorem us25 : (Try.prog.underlying 25).isSome = true := by kernel_rfl
theorem one25 : oneT Try.prog 25 = true := by kernel_rfl
theorem size25 : (Try.prog.info? 25).map (·.size) = some 1 := by kernel_rfl
theorem us26 : (Try.prog.underlying 26).isSome = true := by kernel_rfl
theorem one26 : oneT Try.prog 26 = true := by kernel_rfl
theorem size26 : (Try.prog.info? 26).map (·.size) = some 1 := by kernel_rfl
theorem zero26 : zeroT Try.prog 26 = some (Value.int .i64 0) := by kernel_rfl
theorem us27 : (Try.prog.underlying 27).isSome = true := by kernel_rfl
theorem one27 : oneT Try.prog 27 = true := by kernel_rfl
theorem size27 : (Try.prog.info? 27).map (·.size) = some 1 := by kernel_rfl
theorem us28 : (Try.prog.underlying 28).isSome = true := by kernel_rfl
theorem one28 : oneT Try.prog 28 = true := by kernel_rfl
theorem size28 : (Try.prog.info? 28).map (·.size) = some 1 := by kernel_rfl
theorem us29 : (Try.prog.underlying 29).isSome = true := by kernel_rfl
theorem one29 : oneT Try.prog 29 = true := by kernel_rfl
theorem size29 : (Try.prog.info? 29).map (·.size) = some 1 := by kernel_rfl
theorem us30 : (Try.prog.underlying 30).isSome = true := by kernel_rfl
theorem one30 : oneT Try.prog 30 = true := by kernel_rfl
theorem size30 : (Try.prog.info? 30).map (·.size) = some 1 := by kernel_rfl
theorem us31 : (Try.prog.underlying 31).isSome = true := by kernel_rfl
theorem one31 : oneT Try.prog 31 = true := by kernel_rfl
theorem size31 : (Try.prog.info? 31).map (·.size) = some 1 := by kernel_rfl
theorem us32 : (Try.prog.underlying 32).isSome = true := by kernel_rfl
theorem one32 : oneT Try.prog 32 = true := by kernel_rfl
theorem size32 : (Try.prog.info? 32).map (·.size) = some 1 := by kernel_rfl
theorem us34 : (Try.prog.underlying 34).isSome = true := by kernel_rfl
theorem one34 : oneT Try.prog 34 = true := by kernel_rfl
theorem size34 : (Try.prog.info? 34).map (·.size) = some 1 := by kernel_rfl
theorem us35 : (Try.prog.underlying 35).isSome = true := by kernel_rfl
theorem one35 : oneT Try.prog 35 = true := by kernel_rfl
theorem size35 : (Try.prog.info? 35).map (·.size) = some 1 := by kernel_rfl
theorem zero35 : zeroT Try.prog 35 = some (Value.int .u16 0) := by kernel_rfl
theorem us36 : (Try.prog.underlying 36).isSome = true := by kernel_rfl
theorem one36 : oneT Try.prog 36 = true := by kernel_rfl
theorem size36 : (Try.prog.info? 36).map (·.size) = some 1 := by kernel_rfl
theorem us37 : (Try.prog.underlying 37).isSome = true := by kernel_rfl
theorem one37 : oneT Try.prog 37 = true := by kernel_rfl
theorem size37 : (Try.prog.info? 37).map (·.size) = some 1 := by kernel_rfl
theorem us38 : (Try.prog.underlying 38).isSome = true := by kernel_rfl
theorem one38 : oneT Try.prog 38 = true := by kernel_rfl
theorem size38 : (Try.prog.info? 38).map (·.size) = some 1 := by kernel_rfl
theorem us39 : (Try.prog.underlying 39).isSome = true := by kernel_rfl
theorem one39 : oneT Try.prog 39 = true := by kernel_rfl
theorem slt39 : SlT Try.prog 39 5 (Value.int .u8 0) 1 1 := ⟨Try.underlying39, by kernel_rfl, rfl, by decide⟩
theorem size39 : (Try.prog.info? 39).map (·.size) = some 1 := by kernel_rfl
theorem zero39 : zeroT Try.prog 39 = some (Value.slice none 0 0) := by kernel_rfl
theorem us40 : (Try.prog.underlying 40).isSome = true := by kernel_rfl
theorem one40 : oneT Try.prog 40 = true := by kernel_rfl
theorem size40 : (Try.prog.info? 40).map (·.size) = some 1 := by kernel_rfl
theorem us41 : (Try.prog.underlying 41).isSome = true := by kernel_rfl
theorem one41 : oneT Try.prog 41 = true := by kernel_rfl
theorem size41 : (Try.prog.info? 41).map (·.size) = some 1 := by kernel_rfl
theorem us42 : (Try.prog.underlying 42).isSome = true := by kernel_rfl
theorem one42 : oneT Try.prog 42 = true := by kernel_rfl
theorem size42 : (Try.prog.info? 42).map (·.size) = some 1 := by kernel_rfl
theorem us43 : (Try.prog.underlying 43).isSome = true := by kernel_rfl
theorem one43 : oneT Try.prog 43 = true := by kernel_rfl
theorem size43 : (Try.prog.info? 43).map (·.size) = some 1 := by kernel_rfl
theorem us45 : (Try.prog.underlying 45).isSome = true := by kernel_rfl
theorem one45 : oneT Try.prog 45 = true := by kernel_rfl
theorem size45 : (Try.prog.info? 45).map (·.size) = some 1 := by kernel_rfl
theorem us46 : (Try.prog.underlying 46).isSome = true := by kernel_rfl
theorem one46 : oneT Try.prog 46 = true := by kernel_rfl
theorem size46 : (Try.prog.info? 46).map (·.size) = some 1 := by kernel_rfl
theorem us47 : (Try.prog.underlying 47).isSome = true := by kernel_rfl
theorem one47 : oneT Try.prog 47 = true := by kernel_rfl
theorem size47 : (Try.prog.info? 47).map (·.size) = some 1 := by kernel_rfl
theorem us48 : (Try.prog.underlying 48).isSome = true := by kernel_rfl
theorem one48 : oneT Try.prog 48 = true := by kernel_rfl
theorem size48 : (Try.prog.info? 48).map (·.size) = some 1 := by kernel_rfl
theorem us49 : (Try.prog.underlying 49).isSome = true := by kernel_rfl
theorem one49 : oneT Try.prog 49 = true := by kernel_rfl
theorem slt49 : SlT Try.prog 49 23 (Value.slice none 0 0) 1 24 := ⟨Try.underlying49, by kernel_rfl, rfl, by decide⟩
theorem size49 : (Try.prog.info? 49).map (·.size) = some 1 := by kernel_rfl
theorem zero49 : zeroT Try.prog 49 = some (Value.slice none 0 0) := by kernel_rfl
theorem us50 : (Try.prog.underlying 50).isSome = true := by kernel_rfl
theorem one50 : oneT Try.prog 50 = true := by kernel_rfl
theorem size50 : (Try.prog.info? 50).map (·.size) = some 1 := by kernel_rfl
theorem us51 : (Try.prog.underlying 51).isSome = true := by kernel_rfl
theorem one51 : oneT Try.prog 51 = true := by kernel_rfl
theorem size51 : (Try.prog.info? 51).map (·.size) = some 1 := by kernel_rfl
theorem us52 : (Try.prog.underlying 52).isSome = true := by kernel_rfl
theorem one52 : oneT Try.prog 52 = true := by kernel_rfl
theorem size52 : (Try.prog.info? 52).map (·.size) = some 1 := by kernel_rfl
theorem us53 : (Try.prog.underlying 53).isSome = true := by kernel_rfl
theorem one53 : oneT Try.prog 53 = true := by kernel_rfl
theorem size53 : (Try.prog.info? 53).map (·.size) = some 1 := by kernel_rfl
theorem us54 : (Try.prog.underlying 54).isSome = true := by kernel_rfl
theorem one54 : oneT Try.prog 54 = true := by kernel_rfl
theorem size54 : (Try.prog.info? 54).map (·.size) = some 1 := by kernel_rfl
theorem us55 : (Try.prog.underlying 55).isSome = true := by kernel_rfl
theorem one55 : oneT Try.prog 55 = true := by kernel_rfl
theorem size55 : (Try.prog.info? 55).map (·.size) = some 1 := by kernel_rfl
theorem us56 : (Try.prog.underlying 56).isSome = true := by kernel_rfl
theorem one56 : oneT Try.prog 56 = true := by kernel_rfl
theorem size56 : (Try.prog.info? 56).map (·.size) = some 1 := by kernel_rfl
theorem us57 : (Try.prog.underlying 57).isSome = true := by kernel_rfl
theorem one57 : oneT Try.prog 57 = true := by kernel_rfl
theorem size57 : (Try.prog.info? 57).map (·.size) = some 1 := by kernel_rfl
theorem us58 : (Try.prog.underlying 58).isSome = true := by kernel_rfl
theorem one58 : oneT Try.prog 58 = true := by kernel_rfl
theorem size58 : (Try.prog.info? 58).map (·.size) = some 1 := by kernel_rfl
theorem us59 : (Try.prog.underlying 59).isSome = true := by kernel_rfl
theorem one59 : oneT Try.prog 59 = true := by kernel_rfl
theorem size59 : (Try.prog.info? 59).map (·.size) = some 1 := by kernel_rfl
theorem us60 : (Try.prog.underlying 60).isSome = true := by kernel_rfl
theorem one60 : oneT Try.prog 60 = true := by kernel_rfl
theorem size60 : (Try.prog.info? 60).map (·.size) = some 1 := by kernel_rfl
theorem zero60 : zeroT Try.prog 60 = some (Value.int .u64 0) := by kernel_rfl
theorem us61 : (Try.prog.underlying 61).isSome = true := by kernel_rfl
theorem one61 : oneT Try.prog 61 = true := by kernel_rfl
theorem size61 : (Try.prog.info? 61).map (·.size) = some 1 := by kernel_rfl
theorem us62 : (Try.prog.underlying 62).isSome = true := by kernel_rfl
theorem one62 : oneT Try.prog 62 = true := by kernel_rfl
theorem size62 : (Try.prog.info? 62).map (·.size) = some 1 := by kernel_rfl
theorem us63 : (Try.prog.underlying 63).isSome = true := by kernel_rfl
theorem one63 : oneT Try.prog 63 = true := by kernel_rfl
theorem size63 : (Try.prog.info? 63).map (·.size) = some 1 := by kernel_rfl
theorem us64 : (Try.prog.underlying 64).isSome = true := by kernel_rfl
theorem one64 : oneT Try.prog 64 = true := by kernel_rfl
theorem slt64 : SlT Try.prog 64 3 (Value.int .i64 0) 1 8 := ⟨Try.underlying64, by kernel_rfl, rfl, by decide⟩
theorem size64 : (Try.prog.info? 64).map (·.size) = some 1 := by kernel_rfl
theorem zero64 : zeroT Try.prog 64 = some (Value.slice none 0 0) := by kernel_rfl
theorem us65 : (Try.prog.underlying 65).isSome = true := by kernel_rfl
theorem one65 : oneT Try.prog 65 = true := by kernel_rfl
theorem size65 : (Try.prog.info? 65).map (·.size) = some 1 := by kernel_rfl
theorem us66 : (Try.prog.underlying 66).isSome = true := by kernel_rfl
theorem one66 : oneT Try.prog 66 = true := by kernel_rfl
theorem size66 : (Try.prog.info? 66).map (·.size) = some 1 := by kernel_rfl
theorem us67 : (Try.prog.underlying 67).isSome = true := by kernel_rfl
theorem one67 : oneT Try.prog 67 = true := by kernel_rfl
theorem size67 : (Try.prog.info? 67).map (·.size) = some 1 := by kernel_rfl
theorem us68 : (Try.prog.underlying 68).isSome = true := by kernel_rfl
theorem one68 : oneT Try.prog 68 = true := by kernel_rfl
theorem size68 : (Try.prog.info? 68).map (·.size) = some 1 := by kernel_rfl
theorem us69 : (Try.prog.underlying 69).isSome = true := by kernel_rfl
theorem one69 : oneT Try.prog 69 = true := by kernel_rfl
theorem size69 : (Try.prog.info? 69).map (·.size) = some 1 := by kernel_rfl
theorem us70 : (Try.prog.underlying 70).isSome = true := by kernel_rfl
theorem one70 : oneT Try.prog 70 = true := by kernel_rfl
theorem size70 : (Try.prog.info? 70).map (·.size) = some 1 := by kernel_rfl
theorem zero70 : zeroT Try.prog 70 = some (Value.int .i64 0) := by kernel_rfl
theorem us72 : (Try.prog.underlying 72).isSome = true := by kernel_rfl
theorem one72 : oneT Try.prog 72 = true := by kernel_rfl
theorem size72 : (Try.prog.info? 72).map (·.size) = some 1 := by kernel_rfl
theorem us73 : (Try.prog.underlying 73).isSome = true := by kernel_rfl
theorem one73 : oneT Try.prog 73 = true := by kernel_rfl
theorem size73 : (Try.prog.info? 73).map (·.size) = some 1 := by kernel_rfl
theorem us74 : (Try.prog.underlying 74).isSome = true := by kernel_rfl
theorem one74 : oneT Try.prog 74 = true := by kernel_rfl
theorem size74 : (Try.prog.info? 74).map (·.size) = some 1 := by kernel_rfl
theorem us75 : (Try.prog.underlying 75).isSome = true := by kernel_rfl
theorem one75 : oneT Try.prog 75 = true := by kernel_rfl
theorem size75 : (Try.prog.info? 75).map (·.size) = some 1 := by kernel_rfl
theorem us77 : (Try.prog.underlying 77).isSome = true := by kernel_rfl
theorem one77 : oneT Try.prog 77 = true := by kernel_rfl
theorem size77 : (Try.prog.info? 77).map (·.size) = some 1 := by kernel_rfl
theorem us78 : (Try.prog.underlying 78).isSome = true := by kernel_rfl
theorem one78 : oneT Try.prog 78 = true := by kernel_rfl
theorem size78 : (Try.prog.info? 78).map (·.size) = some 1 := by kernel_rfl
theorem us79 : (Try.prog.underlying 79).isSome = true := by kernel_rfl
theorem one79 : oneT Try.prog 79 = true := by kernel_rfl
theorem size79 : (Try.prog.info? 79).map (·.size) = some 1 := by kernel_rfl
theorem zero79 : zeroT Try.prog 79 = some (Value.int .u32 0) := by kernel_rfl
theorem us80 : (Try.prog.underlying 80).isSome = true := by kernel_rfl
theorem one80 : oneT Try.prog 80 = true := by kernel_rfl
theorem size80 : (Try.prog.info? 80).map (·.size) = some 1 := by kernel_rfl
theorem us81 : (Try.prog.underlying 81).isSome = true := by kernel_rfl
theorem one81 : oneT Try.prog 81 = true := by kernel_rfl
theorem size81 : (Try.prog.info? 81).map (·.size) = some 1 := by kernel_rfl
theorem zero81 : zeroT Try.prog 81 = some (Value.int .u64 0) := by kernel_rfl
theorem us82 : (Try.prog.underlying 82).isSome = true := by kernel_rfl
theorem one82 : oneT Try.prog 82 = true := by kernel_rfl
theorem size82 : (Try.prog.info? 82).map (·.size) = some 1 := by kernel_rfl
theorem zero82 : zeroT Try.prog 82 = some (Value.int .u64 0) := by kernel_rfl
theorem us83 : (Try.prog.underlying 83).isSome = true := by kernel_rfl
theorem one83 : oneT Try.prog 83 = true := by kernel_rfl
theorem size83 : (Try.prog.info? 83).map (·.size) = some 1 := by kernel_rfl
theorem us84 : (Try.prog.underlying 84).isSome = true := by kernel_rfl
theorem one84 : oneT Try.prog 84 = true := by kernel_rfl
theorem size84 : (Try.prog.info? 84).map (·.size) = some 1 := by kernel_rfl
theorem us85 : (Try.prog.underlying 85).isSome = true := by kernel_rfl
theorem one85 : oneT Try.prog 85 = true := by kernel_rfl
theorem size85 : (Try.prog.info? 85).map (·.size) = some 1 := by kernel_rfl
theorem us86 : (Try.prog.underlying 86).isSome = true := by kernel_rfl
theorem one86 : oneT Try.prog 86 = true := by kernel_rfl
theorem size86 : (Try.prog.info? 86).map (·.size) = some 1 := by kernel_rfl
theorem zero86 : zeroT Try.prog 86 = some (Value.pointer none) := by kernel_rfl
theorem us87 : (Try.prog.underlying 87).isSome = true := by kernel_rfl
theorem one87 : oneT Try.prog 87 = true := by kernel_rfl
theorem size87 : (Try.prog.info? 87).map (·.size) = some 1 := by kernel_rfl
theorem us88 : (Try.prog.underlying 88).isSome = true := by kernel_rfl
theorem one88 : oneT Try.prog 88 = true := by kernel_rfl
theorem size88 : (Try.prog.info? 88).map (·.size) = some 1 := by kernel_rfl
theorem zero88 : zeroT Try.prog 88 = some (Value.pointer none) := by kernel_rfl
theorem us90 : (Try.prog.underlying 90).isSome = true := by kernel_rfl
theorem one90 : oneT Try.prog 90 = true := by kernel_rfl
theorem size90 : (Try.prog.info? 90).map (·.size) = some 1 := by kernel_rfl
theorem us91 : (Try.prog.underlying 91).isSome = true := by kernel_rfl
theorem one91 : oneT Try.prog 91 = true := by kernel_rfl
theorem size91 : (Try.prog.info? 91).map (·.size) = some 1 := by kernel_rfl
theorem us92 : (Try.prog.underlying 92).isSome = true := by kernel_rfl
theorem agg92 : aggT Try.prog 92 = some 4 := by kernel_rfl
theorem fld92_0 : fieldT Try.prog 92 0 = some 0 := by kernel_rfl
theorem fld92_1 : fieldT Try.prog 92 1 = some 1 := by kernel_rfl
theorem fld92_2 : fieldT Try.prog 92 2 = some 2 := by kernel_rfl
theorem fld92_3 : fieldT Try.prog 92 3 = some 3 := by kernel_rfl
theorem size92 : (Try.prog.info? 92).map (·.size) = some 4 := by kernel_rfl
theorem zero92 : zeroT Try.prog 92 = some (Value.agg #[(Value.pointer none), (Value.pointer none), (Value.pointer none), (Value.string (bs []))]) := by kernel_rfl
theorem us93 : (Try.prog.underlying 93).isSome = true := by kernel_rfl
theorem agg93 : aggT Try.prog 93 = some 4 := by kernel_rfl
theorem fld93_0 : fieldT Try.prog 93 0 = some 0 := by kernel_rfl
theorem fld93_1 : fieldT Try.prog 93 1 = some 1 := by kernel_rfl
theorem fld93_2 : fieldT Try.prog 93 2 = some 2 := by kernel_rfl
theorem fld93_3 : fieldT Try.prog 93 3 = some 3 := by kernel_rfl
theorem size93 : (Try.prog.info? 93).map (·.size) = some 4 := by kernel_rfl
theorem zero93 : zeroT Try.prog 93 = some (Value.agg #[(Value.pointer none), (Value.pointer none), (Value.pointer none), (Value.string (bs []))]) := by kernel_rfl
theorem us94 : (Try.prog.underlying 94).isSome = true := by kernel_rfl
theorem agg94 : aggT Try.prog 94 = some 0 := by kernel_rfl
theorem arr94 : arrT Try.prog 94 = some (0, 1) := by kernel_rfl
theorem size94 : (Try.prog.info? 94).map (·.size) = some 0 := by kernel_rfl
theorem zero94 : zeroT Try.prog 94 = some (Value.agg #[]) := by kernel_rfl
theorem us95 : (Try.prog.underlying 95).isSome = true := by kernel_rfl
theorem agg95 : aggT Try.prog 95 = some 0 := by kernel_rfl
theorem size95 : (Try.prog.info? 95).map (·.size) = some 0 := by kernel_rfl
theorem zero95 : zeroT Try.prog 95 = some (Value.agg #[]) := by kernel_rfl
theorem us96 : (Try.prog.underlying 96).isSome = true := by kernel_rfl
theorem agg96 : aggT Try.prog 96 = some 0 := by kernel_rfl
theorem size96 : (Try.prog.info? 96).map (·.size) = some 0 := by kernel_rfl
theorem zero96 : zeroT Try.prog 96 = some (Value.agg #[]) := by kernel_rfl
theorem us97 : (Try.prog.underlying 97).isSome = true := by kernel_rfl
theorem one97 : oneT Try.prog 97 = true := by kernel_rfl
theorem size97 : (Try.prog.info? 97).map (·.size) = some 1 := by kernel_rfl
theorem us98 : (Try.prog.underlying 98).isSome = true := by kernel_rfl
theorem one98 : oneT Try.prog 98 = true := by kernel_rfl
theorem size98 : (Try.prog.info? 98).map (·.size) = some 1 := by kernel_rfl
theorem zero98 : zeroT Try.prog 98 = some (Value.int .u8 0) := by kernel_rfl
theorem us99 : (Try.prog.underlying 99).isSome = true := by kernel_rfl
theorem one99 : oneT Try.prog 99 = true := by kernel_rfl
theorem size99 : (Try.prog.info? 99).map (·.size) = some 1 := by kernel_rfl
theorem zero99 : zeroT Try.prog 99 = some (Value.int .u8 0) := by kernel_rfl
theorem us100 : (Try.prog.underlying 100).isSome = true := by kernel_rfl
theorem one100 : oneT Try.prog 100 = true := by kernel_rfl
theorem size100 : (Try.prog.info? 100).map (·.size) = some 1 := by kernel_rfl
theorem us101 : (Try.prog.underlying 101).isSome = true := by kernel_rfl
theorem one101 : oneT Try.prog 101 = true := by kernel_rfl
theorem size101 : (Try.prog.info? 101).map (·.size) = some 1 := by kernel_rfl
theorem zero101 : zeroT Try.prog 101 = some (Value.pointer none) := by kernel_rfl
theorem us102 : (Try.prog.underlying 102).isSome = true := by kernel_rfl
theorem one102 : oneT Try.prog 102 = true := by kernel_rfl
theorem size102 : (Try.prog.info? 102).map (·.size) = some 1 := by kernel_rfl
theorem zero102 : zeroT Try.prog 102 = some (Value.int .i32 0) := by kernel_rfl
theorem us103 : (Try.prog.underlying 103).isSome = true := by kernel_rfl
theorem one103 : oneT Try.prog 103 = true := by kernel_rfl
theorem size103 : (Try.prog.info? 103).map (·.size) = some 1 := by kernel_rfl
theorem zero103 : zeroT Try.prog 103 = some (Value.int .i32 0) := by kernel_rfl
theorem us104 : (Try.prog.underlying 104).isSome = true := by kernel_rfl
theorem agg104 : aggT Try.prog 104 = some 11 := by kernel_rfl
theorem fld104_0 : fieldT Try.prog 104 0 = some 0 := by kernel_rfl
theorem fld104_1 : fieldT Try.prog 104 1 = some 1 := by kernel_rfl
theorem fld104_2 : fieldT Try.prog 104 2 = some 2 := by kernel_rfl
theorem fld104_3 : fieldT Try.prog 104 3 = some 3 := by kernel_rfl
theorem fld104_4 : fieldT Try.prog 104 4 = some 4 := by kernel_rfl
theorem fld104_5 : fieldT Try.prog 104 5 = some 5 := by kernel_rfl
theorem fld104_6 : fieldT Try.prog 104 6 = some 6 := by kernel_rfl
theorem fld104_7 : fieldT Try.prog 104 7 = some 7 := by kernel_rfl
theorem fld104_8 : fieldT Try.prog 104 8 = some 8 := by kernel_rfl
theorem fld104_9 : fieldT Try.prog 104 9 = some 9 := by kernel_rfl
theorem fld104_10 : fieldT Try.prog 104 10 = some 10 := by kernel_rfl
theorem size104 : (Try.prog.info? 104).map (·.size) = some 11 := by kernel_rfl
theorem zero104 : zeroT Try.prog 104 = some (Value.agg #[(Value.int .u64 0), (Value.int .u64 0), (Value.int .u32 0), (Value.int .u8 0), (Value.int .u8 0), (Value.int .u8 0), (Value.int .u8 0), Value.nilFunc, (Value.pointer none), (Value.int .i32 0), (Value.int .i32 0)]) := by kernel_rfl
theorem us105 : (Try.prog.underlying 105).isSome = true := by kernel_rfl
theorem agg105 : aggT Try.prog 105 = some 11 := by kernel_rfl
theorem fld105_0 : fieldT Try.prog 105 0 = some 0 := by kernel_rfl
theorem fld105_1 : fieldT Try.prog 105 1 = some 1 := by kernel_rfl
theorem fld105_2 : fieldT Try.prog 105 2 = some 2 := by kernel_rfl
theorem fld105_3 : fieldT Try.prog 105 3 = some 3 := by kernel_rfl
theorem fld105_4 : fieldT Try.prog 105 4 = some 4 := by kernel_rfl
theorem fld105_5 : fieldT Try.prog 105 5 = some 5 := by kernel_rfl
theorem fld105_6 : fieldT Try.prog 105 6 = some 6 := by kernel_rfl
theorem fld105_7 : fieldT Try.prog 105 7 = some 7 := by kernel_rfl
theorem fld105_8 : fieldT Try.prog 105 8 = some 8 := by kernel_rfl
theorem fld105_9 : fieldT Try.prog 105 9 = some 9 := by kernel_rfl
theorem fld105_10 : fieldT Try.prog 105 10 = some 10 := by kernel_rfl
theorem size105 : (Try.prog.info? 105).map (·.size) = some 11 := by kernel_rfl
theorem zero105 : zeroT Try.prog 105 = some (Value.agg #[(Value.int .u64 0), (Value.int .u64 0), (Value.int .u32 0), (Value.int .u8 0), (Value.int .u8 0), (Value.int .u8 0), (Value.int .u8 0), Value.nilFunc, (Value.pointer none), (Value.int .i32 0), (Value.int .i32 0)]) := by kernel_rfl
theorem us106 : (Try.prog.underlying 106).isSome = true := by kernel_rfl
theorem one106 : oneT Try.prog 106 = true := by kernel_rfl
theorem size106 : (Try.prog.info? 106).map (·.size) = some 1 := by kernel_rfl
theorem zero106 : zeroT Try.prog 106 = some (Value.pointer none) := by kernel_rfl
theorem ok3 : callOk Try.prog 3 = true := by kernel_rfl
theorem ok4 : callOk Try.prog 4 = true := by kernel_rfl
theorem ok5 : callOk Try.prog 5 = true := by kernel_rfl
theorem ok6 : callOk Try.prog 6 = true := by kernel_rfl
theorem ok7 : callOk Try.prog 7 = true := by kernel_rfl
theorem ok8 : callOk Try.prog 8 = true := by kernel_rfl
theorem ok9 : callOk Try.prog 9 = true := by kernel_rfl
theorem ok10 : callOk Try.prog 10 = true := by kernel_rfl
theorem ok11 : callOk Try.prog 11 = true := by kernel_rfl
theorem ok12 : callOk Try.prog 12 = true := by kernel_rfl
theorem ok13 : callOk Try.prog 13 = true := by kernel_rfl
theorem ok14 : callOk Try.prog 14 = true := by kernel_rfl
theorem ok15 : callOk Try.prog 15 = true := by kernel_rfl
theorem ok16 : callOk Try.prog 16 = true := by kernel_rfl
theorem ok17 : callOk Try.prog 17 = true := by kernel_rfl
theorem ok18 : callOk Try.prog 18 = true := by kernel_rfl
theorem ok19 : callOk Try.prog 19 = true := by kernel_rfl
theorem ok20 : callOk Try.prog 20 = true := by kernel_rfl
theorem ok21 : callOk Try.prog 21 = true := by kernel_rfl
theorem ok22 : callOk Try.prog 22 = true := by kernel_rfl
theorem ok23 : callOk Try.prog 23 = true := by kernel_rfl
theorem ok24 : callOk Try.prog 24 = true := by kernel_rfl
theorem ok25 : callOk Try.prog 25 = true := by kernel_rfl
theorem ok26 : callOk Try.prog 26 = true := by kernel_rfl
theorem ok27 : callOk Try.prog 27 = true := by kernel_rfl
theorem ok28 : callOk Try.prog 28 = true := by kernel_rfl
theorem ok29 : callOk Try.prog 29 = true := by kernel_rfl
theorem ok30 : callOk Try.prog 30 = true := by kernel_rfl
theorem ok31 : callOk Try.prog 31 = true := by kernel_rfl
theorem ok32 : callOk Try.prog 32 = true := by kernel_rfl
theorem ok33 : callOk Try.prog 33 = true := by kernel_rfl
theorem ok34 : callOk Try.prog 34 = true := by kernel_rfl
theorem ok35 : callOk Try.prog 35 = true := by kernel_rfl
theorem ok36 : callOk Try.prog 36 = true := by kernel_rfl
theorem ok37 : callOk Try.prog 37 = true := by kernel_rfl
theorem ok38 : callOk Try.prog 38 = true := by kernel_rfl
theorem ok39 : callOk Try.prog 39 = true := by kernel_rfl
theorem ok40 : callOk Try.prog 40 = true := by kernel_rfl
theorem ok41 : callOk Try.prog 41 = true := by kernel_rfl
theorem ok42 : callOk Try.prog 42 = true := by kernel_rfl
theorem ok43 : callOk Try.prog 43 = true := by kernel_rfl
theorem ok44 : callOk Try.prog 44 = true := by kernel_rfl
theorem ok45 : callOk Try.prog 45 = true := by kernel_rfl
theorem ok46 : callOk Try.prog 46 = true := by kernel_rfl
theorem ok47 : callOk Try.prog 47 = true := by kernel_rfl
theorem ok48 : callOk Try.prog 48 = true := by kernel_rfl
theorem ok49 : callOk Try.prog 49 = true := by kernel_rfl
theorem ok50 : callOk Try.prog 50 = true := by kernel_rfl
theorem ok51 : callOk Try.prog 51 = true := by kernel_rfl
theorem ok52 : callOk Try.prog 52 = true := by kernel_rfl
theorem ok53 : callOk Try.prog 53 = true := by kernel_rfl
theorem ok54 : callOk Try.prog 54 = true := by kernel_rfl
theorem ok55 : callOk Try.prog 55 = true := by kernel_rfl
theorem ok56 : callOk Try.prog 56 = true := by kernel_rfl
theorem ok57 : callOk Try.prog 57 = true := by kernel_rfl
theorem ok58 : callOk Try.prog 58 = true := by kernel_rfl
theorem ok59 : callOk Try.prog 59 = true := by kernel_rfl
theorem ok60 : callOk Try.prog 60 = true := by kernel_rfl
theorem ok61 : callOk Try.prog 61 = true := by kernel_rfl
theorem ok62 : callOk Try.prog 62 = true := by kernel_rfl
theorem ok63 : callOk Try.prog 63 = true := by kernel_rfl
theorem ok64 : callOk Try.prog 64 = true := by kernel_rfl
theorem ok65 : callOk Try.prog 65 = true := by kernel_rfl
theorem ok66 : callOk Try.prog 66 = true := by kernel_rfl
theorem ok67 : callOk Try.prog 67 = true := by kernel_rfl
theorem ok68 : callOk Try.prog 68 = true := by kernel_rfl
theorem ok69 : callOk Try.prog 69 = true := by kernel_rfl
theorem ok70 : callOk Try.prog 70 = true := by kernel_rfl
theorem ok71 : callOk Try.prog 71 = true := by kernel_rfl
theorem ok72 : callOk Try.prog 72 = true := by kernel_rfl
theorem ok73 : callOk Try.prog 73 = true := by kernel_rfl
theorem ok74 : callOk Try.prog 74 = true := by kernel_rfl
theorem ok75 : callOk Try.prog 75 = true := by kernel_rfl
theorem ok76 : callOk Try.prog 76 = true := by kernel_rfl
theorem ok77 : callOk Try.prog 77 = true := by kernel_rfl
theorem ok78 : callOk Try.prog 78 = true := by kernel_rfl
theorem ok79 : callOk Try.prog 79 = true := by kernel_rfl
theorem ok80 : callOk Try.prog 80 = true := by kernel_rfl
theorem ok81 : callOk Try.prog 81 = true := by kernel_rfl
theorem ok82 : callOk Try.prog 82 = true := by kernel_rfl
theorem mixed : Try.prog.follows .mixedOrders = true := by kernel_rfl
end Go.Proofs.Ytpmnljffdofkeaa

/- Walks, written by a program: what each function of the translation hands back. -/
namespace Go.Proofs.Ytpmnljffdofkeaa
open Go.Gx Go.RowKit
attribute [local irreducible] wpList wpStill Code.wp Calls

theorem isNaN16_ret (m : UInt16) (w : World) : Ret Try.prog 65 #[(Value.int .u16 (m.toNat : Int))] w (fun v' w' => v' = .bool false ∧ w' = w) := by
 have hb := Below.refl w.heap.size w
 refine enter (N := 6) Try.func65 rfl rfl (by simp) fun a0 hN hd hA => ?_
 have s0 : a0.tmps.getD 0 undef = (Value.int .u16 (m.toNat : Int)) := hA 0 (by simp)
 clear hA
 refine seq_any fun K1 hK1 => ?_
 refine one_reg ?_
 refine op_assign rfl ?_
 refine reg_nil ?_
 refine hK1 _ _ ?_
 refine seq_any fun K2 hK2 => ?_
 refine one_reg ?_
 refine op_move (ev_base hN rfl s0) ?_
 refine op_move (ev_base hN rfl s0) ?_
 refine op_neq (ev_hit hN rfl) (ev_hit hN rfl) (fun c5 => ?_) (fun c5 => ?_)
 · -- 5T
  refine op_assign (ev_hit hN rfl) ?_
  refine reg_nil ?_
  refine hK2 _ _ ?_
  refine wp_ret ?_
  refine ret1 rfl hd (ev_hit hN rfl) ⟨_, rfl, ?_⟩
  -- path 5T
  exact (c5 rfl).elim
 · -- 5F
  refine op_assign (ev_hit hN rfl) ?_
  refine reg_nil ?_
  refine hK2 _ _ ?_
  refine wp_ret ?_
  refine ret1 rfl hd (ev_hit hN rfl) ⟨_, rfl, ?_⟩
  -- path 5F
  exact ⟨rfl, rfl⟩

theorem Less16_ret (x y : UInt16) (w : World) : Ret Try.prog 72 #[(Value.int .u16 (x.toNat : Int)), (Value.int .u16 (y.toNat : Int))] w (fun v' w' => v' = .bool (ltT x y) ∧ w' = w) := by
 have hb := Below.refl w.heap.size w
 refine enter (N := 17) Try.func72 rfl rfl (by simp) fun a0 hN hd hA => ?_
 have s0 : a0.tmps.getD 0 undef = (Value.int .u16 (x.toNat : Int)) := hA 0 (by simp)
 have s1 : a0.tmps.getD 1 undef = (Value.int .u16 (y.toNat : Int)) := hA 1 (by simp)
 clear hA
 refine seq_any fun K3 hK3 => ?_
 refine one_reg ?_
 refine op_assign rfl ?_
 refine reg_nil ?_
 refine hK3 _ _ ?_
 refine seq_any fun K4 hK4 => ?_
 refine one_reg ?_
 refine op_move (ev_base hN rfl s0) ?_
 refine op_fn (vs := [(Value.int .u16 (x.toNat : Int))]) ok65 ⟨(ev_hit hN rfl), trivial⟩ (Ret.flip (isNaN16_ret x _)) ?_
 rintro _ _ ⟨rfl, rfl⟩
 refine op_move (ev_hit hN rfl) ?_
 refine g_false (j := 2) (dj := 7) (b := true) rfl rfl rfl (ev_hit hN rfl) rfl rfl ?_
 refine g_false (j := 2) (dj := 7) (b := true) rfl rfl rfl (ev_hit hN rfl) rfl rfl ?_
 refine g_false (j := 2) (dj := 7) (b := true) rfl rfl rfl (ev_hit hN rfl) rfl rfl ?_
 refine op_pick_f (ev_hit hN rfl) rfl ?_
 refine op_move (ev_hit hN rfl) ?_
 refine g_true (j := 7) (dj := 12) (b := false) rfl rfl rfl (ev_hit hN rfl) ?_
 refine op_move (ev_base hN rfl s0) ?_
 refine g_true (j := 7) (dj := 12) (b := false) rfl rfl rfl (ev_hit hN rfl) ?_
 refine op_move (ev_base hN rfl s1) ?_
 refine g_true (j := 7) (dj := 12) (b := false) rfl rfl rfl (ev_hit hN rfl) ?_
 refine op_lss (ev_hit hN rfl) (ev_hit hN rfl) (fun c15 => ?_) (fun c15 => ?_)
 · -- 15T
  refine op_pick_f (ev_hit hN rfl) (ev_hit hN rfl) ?_
  refine op_assign (ev_hit hN rfl) ?_
  refine reg_nil ?_
  refine hK4 _ _ ?_
  refine wp_ret ?_
  refine ret1 rfl hd (ev_hit hN rfl) ⟨_, rfl, ?_⟩
  -- path 15T
  exact ⟨congrArg Value.bool (ltT_t c15).symm, rfl⟩
 · -- 15F
  refine op_pick_f (ev_hit hN rfl) (ev_hit hN rfl) ?_
  refine op_assign (ev_hit hN rfl) ?_
  refine reg_nil ?_
  refine hK4 _ _ ?_
  refine wp_ret ?_
  refine ret1 rfl hd (ev_hit hN rfl) ⟨_, rfl, ?_⟩
  -- path 15F
  exact ⟨congrArg Value.bool (ltT_f c15).symm, rfl⟩

end Go.Proofs.Ytpmnljffdofkeaa

/- Walks, written by a program: what each function of the translation hands back. -/
namespace Go.Proofs.Ytpmnljffdofkeaa
open Go.Gx Go.RowKit
attribute [local irreducible] wpList wpStill Code.wp Calls
open Go.Sort (insertionSort insOuter insInner swp siftDown heapSort heapBuild heapPop scanUp scanDown partition partLoop partitionEqual partEqLoop scanSorted partialIns bitsLen partialInsertionSort shiftDown shiftUp SortedIn reverseRange reverseLoop fixDown fixUp)
theorem insSort_ret (d : Ar) (v : Value) (n base : Nat) (a b : Nat) (w : World) (hd : d.size = n) (hn : n ≤ 4000000000000000000) (O : Own w base 35 1 v n (d.toList.map u16v)) (hab : a ≤ b) (hbn : b ≤ n) : Ret Try.prog 66 #[v, (Value.int .i64 ((a : Nat) : Int)), (Value.int .i64 ((b : Nat) : Int))] w (fun v' w' => w.grownBy w' v.ownBlock ∧ v' = .tuple #[] ∧ Own w' base 35 1 v n ((insertionSort ltT d a b).toList.map u16v)) := by
 have hb := grown_refl w v.ownBlock
 refine enter (N := 49) Try.func66 rfl rfl (by simp) fun a0 hN hd hA => ?_
 have s0 : a0.tmps.getD 0 undef = v := hA 0 (by simp)
 have s1 : a0.tmps.getD 1 undef = (Value.int .i64 ((a : Nat) : Int)) := hA 1 (by simp)
 have s2 : a0.tmps.getD 2 undef = (Value.int .i64 ((b : Nat) : Int)) := hA 2 (by simp)
 clear hA
 refine seq_any fun K5 hK5 => ?_
 refine one_reg ?_
 refine op_move (ev_base hN rfl s1) ?_
 refine op_add (ev_hit hN rfl) rfl (add64 (by omega)) ?_
 refine op_assign (ev_hit hN rfl) ?_
 refine reg_nil ?_
 refine hK5 _ _ ?_
 refine wp_block ?_
 refine loop_m (fun mz_ az_ w' => ∃ (i : Nat) (dk : Ar), mz_ = b - i ∧ (az_.tmps.getD 0 undef = v) ∧ (az_.tmps.getD 1 undef = (Value.int .i64 ((a : Nat) : Int))) ∧ (az_.tmps.getD 2 undef = (Value.int .i64 ((b : Nat) : Int))) ∧ (az_.tmps.getD 6 undef = (Value.int .i64 ((i : Nat) : Int))) ∧ (dk.size = n) ∧ (a + 1 ≤ i ∧ (i ≤ b ∨ i = a + 1)) ∧ (insOuter ltT a b (a + 1) d = insOuter ltT a b i dk) ∧ (w.grownBy w' v.ownBlock) ∧ (w.heap.size ≤ w'.heap.size) ∧ (Own w' base 35 1 v n (dk.toList.map u16v))) _ hN hd ⟨(a + 1), _, rfl, (sl_base hN rfl s0), (sl_base hN rfl s1), (sl_base hN rfl s2), (sl_hit hN rfl).trans (congrArg (Value.int .i64) (by omega)), (by first | assumption | (simp only [Array.size_setIfInBounds, swp_sz, siftDown_size]; assumption)), ⟨Nat.le_refl _, .inr rfl⟩, rfl, hb, (Nat.le_refl _), O⟩ ?_
 rintro _ a6 w6 hN6 hd6 ⟨i, dk, rfl, s6_0, s6_1, s6_2, s6_6, hdk, hi, ho, hb, zl_w6, hO7⟩
 have z_w6 := hb.size
 refine seq_any fun K8 hK8 => ?_
 refine seq_any fun K9 hK9 => ?_
 refine one_reg ?_
 refine op_move (ev_base hN6 rfl s6_6) ?_
 refine op_move (ev_base hN6 rfl s6_2) ?_
 refine op_lss (ev_hit hN6 rfl) (ev_hit hN6 rfl) (fun c12 => ?_) (fun c12 => ?_)
 · -- 12T
  refine reg_nil ?_
  refine hK9 _ _ ?_
  refine wp_cond_true (ev_hit hN6 rfl) ?_
  refine wp_skip ?_
  refine hK8 _ _ ?_
  refine seq_any fun K10 hK10 => ?_
  refine wp_block ?_
  refine seq_any fun K11 hK11 => ?_
  refine one_reg ?_
  refine op_move (ev_base hN6 rfl s6_6) ?_
  refine op_assign (ev_hit hN6 rfl) ?_
  refine reg_nil ?_
  refine hK11 _ _ ?_
  refine wp_block ?_
  refine loop_m (fun mz_ az_ w' => ∃ (jj : Nat) (dj : Ar), mz_ = (jj + 1) ∧ (az_.tmps.getD 0 undef = v) ∧ (az_.tmps.getD 1 undef = (Value.int .i64 ((a : Nat) : Int))) ∧ (az_.tmps.getD 2 undef = (Value.int .i64 ((b : Nat) : Int))) ∧ (az_.tmps.getD 6 undef = (Value.int .i64 ((i : Nat) : Int))) ∧ (az_.tmps.getD 7 undef = (Value.int .i64 ((jj : Nat) : Int))) ∧ (dj.size = n) ∧ (a ≤ jj ∧ jj ≤ i) ∧ (insInner ltT a i dk = insInner ltT a jj dj) ∧ (w.grownBy w' v.ownBlock) ∧ (w6.heap.size ≤ w'.heap.size) ∧ (Own w' base 35 1 v n (dj.toList.map u16v))) _ hN6 hd6 ⟨i, _, rfl, (sl_base hN6 rfl s6_0), (sl_base hN6 rfl s6_1), (sl_base hN6 rfl s6_2), (sl_base hN6 rfl s6_6), (sl_hit hN6 rfl).trans (congrArg (Value.int .i64) (by omega)), (by first | assumption | (simp only [Array.size_setIfInBounds, swp_sz, siftDown_size]; assumption)), (by omega), rfl, hb, (Nat.le_refl _), hO7⟩ ?_
  rintro _ a12 w12 hN12 hd12 ⟨jj, dj, rfl, s12_0, s12_1, s12_2, s12_6, s12_7, hdj, hji, hj, hb, zl_w12, hO13⟩
  have z_w12 := hb.size
  refine seq_any fun K14 hK14 => ?_
  refine seq_any fun K15 hK15 => ?_
  refine reg_still mixed (by kernel_rfl) ?_
  intro w17 E16
  have z_w17 := E16.size
  have hO13 := hO13.keep0 E16
  have hb := grow_step0 hb E16
  refine st_step rfl (fun _ h9 => op_move (ev_base hN12 rfl s12_7) h9) ?_
  refine st_step rfl (fun _ h9 => op_move (ev_base hN12 rfl s12_1) h9) ?_
  by_cases g18 : ((a : Nat) : Int) < ((jj : Nat) : Int)
  · -- 18T
   refine st_step rfl (fun _ h9 => op_cmp (b := true) (ev_hit hN12 rfl) (ev_hit hN12 rfl) (b_gtr (decide_eq_true g18)) h9) ?_
   refine st_step rfl (fun _ h9 => op_move (ev_hit hN12 rfl) h9) ?_
   refine st_g_true (j := 3) (dj := 19) (b := true) rfl rfl rfl (ev_hit hN12 rfl) ?_
   refine st_step rfl (fun _ h9 => op_move (ev_base hN12 rfl s12_0) h9) ?_
   refine st_g_true (j := 3) (dj := 19) (b := true) rfl rfl rfl (ev_hit hN12 rfl) ?_
   refine st_step rfl (fun _ h9 => op_move (ev_base hN12 rfl s12_7) h9) ?_
   refine st_g_true (j := 3) (dj := 19) (b := true) rfl rfl rfl (ev_hit hN12 rfl) ?_
   refine st_index_rd slt22 (ev_hit hN12 rfl) hO13.rdw (ev_hit hN12 rfl) (by omega) (by omega) ?_
   intro b18 o19 h0b18 h1b18 hc20
   refine st_g_true (j := 3) (dj := 19) (b := true) rfl rfl rfl (ev_hit hN12 rfl) ?_
   refine st_step rfl (fun _ h9 => op_load1 (v := (Value.int .u16 (dj[jj]!.toNat : Int))) one35 (ev_hit hN12 rfl) (by have := hc20 0 (Value.int .u16 (dj[jj]!.toNat : Int)) (by decide) (el_arr (i := jj) (by omega) (by first | omega | (simp only [Array.size_setIfInBounds, swp_sz, siftDown_size]; omega))); simpa using this) h9) ?_
   refine st_g_true (j := 3) (dj := 19) (b := true) rfl rfl rfl (ev_hit hN12 rfl) ?_
   refine st_step rfl (fun _ h9 => op_move (ev_base hN12 rfl s12_0) h9) ?_
   refine st_g_true (j := 3) (dj := 19) (b := true) rfl rfl rfl (ev_hit hN12 rfl) ?_
   refine st_step rfl (fun _ h9 => op_move (ev_base hN12 rfl s12_7) h9) ?_
   refine st_g_true (j := 3) (dj := 19) (b := true) rfl rfl rfl (ev_hit hN12 rfl) ?_
   refine st_step rfl (fun _ h9 => op_sub (ev_hit hN12 rfl) rfl (sub64 (by omega)) h9) ?_
   refine st_g_true (j := 3) (dj := 19) (b := true) rfl rfl rfl (ev_hit hN12 rfl) ?_
   refine st_index_rd slt22 (ev_hit hN12 rfl) hO13.rdw (ev_hit hN12 rfl) (by omega) (by omega) ?_
   intro b21 o22 h0b21 h1b21 hc23
   refine st_g_true (j := 3) (dj := 19) (b := true) rfl rfl rfl (ev_hit hN12 rfl) ?_
   refine st_step rfl (fun _ h9 => op_load1 (v := (Value.int .u16 (dj[(jj - 1)]!.toNat : Int))) one35 (ev_hit hN12 rfl) (by have := hc23 0 (Value.int .u16 (dj[(jj - 1)]!.toNat : Int)) (by decide) (el_arr (i := (jj - 1)) (by omega) (by first | omega | (simp only [Array.size_setIfInBounds, swp_sz, siftDown_size]; omega))); simpa using this) h9) ?_
   refine st_g_true (j := 3) (dj := 19) (b := true) rfl rfl rfl (ev_hit hN12 rfl) ?_
   refine st_fn (vs := [(Value.int .u16 (dj[jj]!.toNat : Int)), (Value.int .u16 (dj[(jj - 1)]!.toNat : Int))]) ok72 (⟨(ev_hit hN12 rfl), ⟨(ev_hit hN12 rfl), trivial⟩⟩) (Less16_ret dj[jj]! dj[(jj - 1)]! _) ?_
   refine st_step rfl (fun _ h9 => op_pick_t (ev_hit hN12 rfl) (ev_hit hN12 rfl) h9) ?_
   refine st_nil ?_
   refine hK15 _ _ ?_
   refine wp_cond_split (ev_hit hN12 rfl) (fun c30 => ?_) (fun c30 => ?_)
   · -- 30T
    refine wp_skip ?_
    refine hK14 _ _ ?_
    refine seq_any fun K24 hK24 => ?_
    refine wp_block ?_
    refine reg_mid (e := 35) (sz := 1) (base := base) (n := n) (v := v) (Φ := phiL [(fun uz _ => uz = v), (fun uz _ => uz = (Value.int .i64 ((jj : Nat) : Int))), (fun uz _ => uz = v), (fun uz _ => uz = (Value.int .i64 ((jj : Nat) : Int))), (fun uz _ => uz = (Value.int .i64 (((jj : Nat) : Int) - 1))), (fun uz _ => uz = v), (fun uz _ => uz = (Value.int .i64 ((jj : Nat) : Int))), (fun uz _ => uz = (Value.int .i64 (((jj : Nat) : Int) - 1))), (fun uz _ => ∃ bz oz, uz = ptr bz oz ∧ AtV v (jj - 1) bz oz), (fun uz _ => uz = (Value.int .u16 (dj[(jj - 1)]!.toNat : Int))), (fun uz _ => uz = v), (fun uz _ => uz = (Value.int .i64 ((jj : Nat) : Int))), (fun uz _ => ∃ bz oz, uz = ptr bz oz ∧ AtV v jj bz oz), (fun uz _ => uz = (Value.int .u16 (dj[jj]!.toNat : Int))), (fun uz _ => ∃ bz oz, uz = ptr bz oz ∧ AtV v jj bz oz), (fun _ _ => True), (fun uz _ => ∃ bz oz, uz = ptr bz oz ∧ AtV v (jj - 1) bz oz), (fun _ _ => True)]) [15, 17] [(dj.toList.map u16v), ((dj.setIfInBounds jj dj[(jj - 1)]!).toList.map u16v), (((dj.setIfInBounds jj dj[(jj - 1)]!).setIfInBounds (jj - 1) dj[jj]!).toList.map u16v)] mixed (by kernel_rfl) (by kernel_rfl) (by kernel_rfl) (by kernel_rfl) hN12 hO13 (StL.get (StL.eq (StL.eq (StL.eq (StL.eq (StL.eq (StL.eq (StL.eq (StL.eq (StL.at (StL.eq (StL.eq (StL.eq (StL.at (StL.eq (StL.at (StL.cons (fun _ _ _ _ h => h) (StL.at (StL.cons (fun _ _ _ _ h => h) (StL.nil _)))))))))))))))))))) (ObRs.get (ObRs.cons ?_ (ObRs.cons ?_ (ObRs.cons ?_ (ObRs.cons ?_ (ObRs.cons ?_ (ObRs.cons ?_ (ObRs.cons ?_ (ObRs.cons ?_ (ObRs.cons ?_ (ObRs.cons ?_ (ObRs.cons ?_ (ObRs.cons ?_ (ObRs.cons ?_ (ObRs.cons ?_ (ObRs.cons ?_ (ObRs.pass rfl (ObRs.cons ?_ (ObRs.pass rfl (ObRs.nil)))))))))))))))))))) (ObWs.get (ObWs.cons ?_ (ObWs.cons ?_ (ObWs.nil)))) ?_
    ·
     intro aA wA cA hNA hRA hckA hOA hbsA hdpA
     have qA_0 := (hbsA 0 rfl).trans (sl_base hN12 rfl s12_0)
     clear hbsA hdpA
     refine op_move (ev_base hNA rfl qA_0) ?_
     exact obR_end rfl rfl (grown_refl _ _)
    ·
     intro aA wA cA hNA hRA hckA hOA hbsA hdpA
     have qA_7 := (hbsA 7 rfl).trans (sl_base hN12 rfl s12_7)
     clear hbsA hdpA
     refine op_move (ev_base hNA rfl qA_7) ?_
     exact obR_end rfl rfl (grown_refl _ _)
    ·
     intro aA wA cA hNA hRA hckA hOA hbsA hdpA
     have qA_0 := (hbsA 0 rfl).trans (sl_base hN12 rfl s12_0)
     clear hbsA hdpA
     refine op_move (ev_base hNA rfl qA_0) ?_
     exact obR_end rfl rfl (grown_refl _ _)
    ·
     intro aA wA cA hNA hRA hckA hOA hbsA hdpA
     have qA_7 := (hbsA 7 rfl).trans (sl_base hN12 rfl s12_7)
     clear hbsA hdpA
     refine op_move (ev_base hNA rfl qA_7) ?_
     exact obR_end rfl rfl (grown_refl _ _)
    ·
     intro aA wA cA hNA hRA hckA hOA hbsA hdpA
     have qA_36 : Sl aA 36 (Value.int .i64 ((jj : Nat) : Int)) := hdpA 3 _ 36 (by kernel_rfl) rfl rfl
     clear hbsA hdpA
     refine op_sub (ev_base hNA rfl qA_36) rfl (sub64 (by omega)) ?_
     exact obR_end rfl rfl (grown_refl _ _)
    ·
     intro aA wA cA hNA hRA hckA hOA hbsA hdpA
     have qA_0 := (hbsA 0 rfl).trans (sl_base hN12 rfl s12_0)
     clear hbsA hdpA
     refine op_move (ev_base hNA rfl qA_0) ?_
     exact obR_end rfl rfl (grown_refl _ _)
    ·
     intro aA wA cA hNA hRA hckA hOA hbsA hdpA
     have qA_7 := (hbsA 7 rfl).trans (sl_base hN12 rfl s12_7)
     clear hbsA hdpA
     refine op_move (ev_base hNA rfl qA_7) ?_
     exact obR_end rfl rfl (grown_refl _ _)
    ·
     intro aA wA cA hNA hRA hckA hOA hbsA hdpA
     have qA_39 : Sl aA 39 (Value.int .i64 ((jj : Nat) : Int)) := hdpA 6 _ 39 (by kernel_rfl) rfl rfl
     clear hbsA hdpA
     refine op_sub (ev_base hNA rfl qA_39) rfl (sub64 (by omega)) ?_
     exact obR_end rfl rfl (grown_refl _ _)
    ·
     intro aA wA cA hNA hRA hckA hOA hbsA hdpA
     have qA_38 : Sl aA 38 v := hdpA 5 _ 38 (by kernel_rfl) rfl rfl
     have qA_40 : Sl aA 40 (Value.int .i64 (((jj : Nat) : Int) - 1)) := hdpA 7 _ 40 (by kernel_rfl) rfl rfl
     clear hbsA hdpA
     refine op_index_own (i := (jj - 1)) slt22 (ev_base hNA rfl qA_38) hOA (ev_base hNA rfl qA_40) (by omega) (by omega) ?_
     intro b_ o_ _ hA_
     exact obR_end rfl ⟨b_, o_, rfl, by simpa using hA_⟩ (grown_refl _ _)
    ·
     intro aA wA cA hNA hRA hckA hOA hbsA hdpA
     obtain ⟨bA_41, oA_41, qA_41, hAA_41⟩ := hdpA 8 _ 41 (by kernel_rfl) rfl rfl
     clear hbsA hdpA
     obtain rfl : cA = 0 := Nat.le_zero.1 (hckA 0 15 rfl (by kernel_rfl))
     have hOA : Own wA base 35 1 v n (dj.toList.map u16v) := hOA
     refine op_load1 (v := (Value.int .u16 (dj[(jj - 1)]!.toNat : Int))) one35 (ev_base hNA rfl qA_41) (by have := hOA.cellAt hAA_41 0 _ (el_at (i := (jj - 1)) (by first | omega | (simp only [Array.size_setIfInBounds, swp_sz, siftDown_size]; omega))); simpa using this) ?_
     exact obR_end rfl rfl (grown_refl _ _)
    ·
     intro aA wA cA hNA hRA hckA hOA hbsA hdpA
     have qA_0 := (hbsA 0 rfl).trans (sl_base hN12 rfl s12_0)
     clear hbsA hdpA
     refine op_move (ev_base hNA rfl qA_0) ?_
     exact obR_end rfl rfl (grown_refl _ _)
    ·
     intro aA wA cA hNA hRA hckA hOA hbsA hdpA
     have qA_7 := (hbsA 7 rfl).trans (sl_base hN12 rfl s12_7)
     clear hbsA hdpA
     refine op_move (ev_base hNA rfl qA_7) ?_
     exact obR_end rfl rfl (grown_refl _ _)
    ·
     intro aA wA cA hNA hRA hckA hOA hbsA hdpA
     have qA_43 : Sl aA 43 v := hdpA 10 _ 43 (by kernel_rfl) rfl rfl
     have qA_44 : Sl aA 44 (Value.int .i64 ((jj : Nat) : Int)) := hdpA 11 _ 44 (by kernel_rfl) rfl rfl
     clear hbsA hdpA
     refine op_index_own (i := jj) slt22 (ev_base hNA rfl qA_43) hOA (ev_base hNA rfl qA_44) (by omega) (by omega) ?_
     intro b_ o_ _ hA_
     exact obR_end rfl ⟨b_, o_, rfl, by simpa using hA_⟩ (grown_refl _ _)
    ·
     intro aA wA cA hNA hRA hckA hOA hbsA hdpA
     obtain ⟨bA_45, oA_45, qA_45, hAA_45⟩ := hdpA 12 _ 45 (by kernel_rfl) rfl rfl
     clear hbsA hdpA
     obtain rfl : cA = 0 := Nat.le_zero.1 (hckA 0 15 rfl (by kernel_rfl))
     have hOA : Own wA base 35 1 v n (dj.toList.map u16v) := hOA
     refine op_load1 (v := (Value.int .u16 (dj[jj]!.toNat : Int))) one35 (ev_base hNA rfl qA_45) (by have := hOA.cellAt hAA_45 0 _ (el_at (i := jj) (by first | omega | (simp only [Array.size_setIfInBounds, swp_sz, siftDown_size]; omega))); simpa using this) ?_
     exact obR_end rfl rfl (grown_refl _ _)
    ·
     intro aA wA cA hNA hRA hckA hOA hbsA hdpA
     have qA_33 : Sl aA 33 v := hdpA 0 _ 33 (by kernel_rfl) rfl rfl
     have qA_34 : Sl aA 34 (Value.int .i64 ((jj : Nat) : Int)) := hdpA 1 _ 34 (by kernel_rfl) rfl rfl
     clear hbsA hdpA
     refine op_index_own (i := jj) slt22 (ev_base hNA rfl qA_33) hOA (ev_base hNA rfl qA_34) (by omega) (by omega) ?_
     intro b_ o_ _ hA_
     exact obR_end rfl ⟨b_, o_, rfl, by simpa using hA_⟩ (grown_refl _ _)
    ·
     intro aA wA cA hNA hRA hckA hOA hbsA hdpA
     have qA_35 : Sl aA 35 v := hdpA 2 _ 35 (by kernel_rfl) rfl rfl
     have qA_37 : Sl aA 37 (Value.int .i64 (((jj : Nat) : Int) - 1)) := hdpA 4 _ 37 (by kernel_rfl) rfl rfl
     clear hbsA hdpA
     refine op_index_own (i := (jj - 1)) slt22 (ev_base hNA rfl qA_35) hOA (ev_base hNA rfl qA_37) (by omega) (by omega) ?_
     intro b_ o_ _ hA_
     exact obR_end rfl ⟨b_, o_, rfl, by simpa using hA_⟩ (grown_refl _ _)
    ·
     intro o_ ho_; obtain rfl := Option.some.inj ho_; intro aA wA hNA hRA hbsA hdpA hOA
     obtain ⟨bA_47, oA_47, qA_47, hAA_47⟩ := hdpA 14 _ 47 (by kernel_rfl) rfl rfl
     have qA_42 : Sl aA 42 (Value.int .u16 (dj[(jj - 1)]!.toNat : Int)) := hdpA 9 _ 42 (by kernel_rfl) rfl rfl
     clear hbsA hdpA
     have hOA : Own wA base 35 1 v n (dj.toList.map u16v) := hOA
     refine op_store_own (vs := [(Value.int .u16 (dj[(jj - 1)]!.toNat : Int))]) size35 (ev_base hNA rfl qA_47) (ev_base hNA rfl qA_42) rfl rfl rfl hOA hAA_47 (by have := hOA.1; simp at this ⊢; omega) ?_
     intro w_ hO_ E_
     exact obW_end rfl (hO_.cast rfl (set_arr (by first | omega | (simp only [Array.size_setIfInBounds, swp_sz, siftDown_size]; omega)))) E_
    ·
     intro o_ ho_; obtain rfl := Option.some.inj ho_; intro aA wA hNA hRA hbsA hdpA hOA
     obtain ⟨bA_48, oA_48, qA_48, hAA_48⟩ := hdpA 16 _ 48 (by kernel_rfl) rfl rfl
     have qA_46 : Sl aA 46 (Value.int .u16 (dj[jj]!.toNat : Int)) := hdpA 13 _ 46 (by kernel_rfl) rfl rfl
     clear hbsA hdpA
     have hOA : Own wA base 35 1 v n ((dj.setIfInBounds jj dj[(jj - 1)]!).toList.map u16v) := hOA
     refine op_store_own (vs := [(Value.int .u16 (dj[jj]!.toNat : Int))]) size35 (ev_base hNA rfl qA_48) (ev_base hNA rfl qA_46) rfl rfl rfl hOA hAA_48 (by have := hOA.1; simp at this ⊢; omega) ?_
     intro w_ hO_ E_
     exact obW_end rfl (hO_.cast rfl (set_arr (by first | omega | (simp only [Array.size_setIfInBounds, swp_sz, siftDown_size]; omega)))) E_
    ·
     intro a25 w25 hN25 hd25 hbs25 hph25 hO25 E25
     have hd25 := hd25.trans hd12
     have s25_0 := (hbs25 0 rfl).trans (sl_base hN12 rfl s12_0)
     have s25_1 := (hbs25 1 rfl).trans (sl_base hN12 rfl s12_1)
     have s25_2 := (hbs25 2 rfl).trans (sl_base hN12 rfl s12_2)
     have s25_6 := (hbs25 6 rfl).trans (sl_base hN12 rfl s12_6)
     have s25_7 := (hbs25 7 rfl).trans (sl_base hN12 rfl s12_7)
     clear hbs25 hph25
     have hO25 : Own w25 base 35 1 v n (((dj.setIfInBounds jj dj[(jj - 1)]!).setIfInBounds (jj - 1) dj[jj]!).toList.map u16v) := hO25
     have z_w25 := E25.size
     have hb := grow_stepX hb E25 rfl
     refine hK24 _ _ ?_
     refine one_reg ?_
     refine op_move (ev_base hN25 rfl s25_7) ?_
     refine op_sub (ev_hit hN25 rfl) rfl (sub64 (by omega)) ?_
     refine op_assign (ev_hit hN25 rfl) ?_
     refine reg_nil ?_
     -- round 12T 18T 30T
     exact loop_next _ hN25 hd25 ⟨(jj - 1), _, rfl, (sl_base hN25 rfl s25_0), (sl_base hN25 rfl s25_1), (sl_base hN25 rfl s25_2), (sl_base hN25 rfl s25_6), (sl_hit hN25 rfl).trans (congrArg (Value.int .i64) (by omega)), (by first | assumption | (simp only [Array.size_setIfInBounds, swp_sz, siftDown_size]; assumption)), (by omega), (hj.trans (insInner_go (by omega) c30)), hb, (by omega), hO25⟩ (by omega)
   · -- 30F
    refine wp_exit (then_exit (then_exit (blk_hit ?_)))
    refine hK10 _ _ ?_
    refine one_reg ?_
    refine op_move (ev_base hN12 rfl s12_6) ?_
    refine op_add (ev_hit hN12 rfl) rfl (add64 (by omega)) ?_
    refine op_assign (ev_hit hN12 rfl) ?_
    refine reg_nil ?_
    -- round 12T 18T 30F
    exact loop_next _ hN12 hd12 ⟨i + 1, _, rfl, (sl_base hN12 rfl s12_0), (sl_base hN12 rfl s12_1), (sl_base hN12 rfl s12_2), (sl_hit hN12 rfl).trans (congrArg (Value.int .i64) (by omega)), (by first | assumption | (simp only [Array.size_setIfInBounds, swp_sz, siftDown_size]; assumption)), (by omega), (ho.trans ((insOuter_go (by omega)).trans (congrArg (insOuter ltT a b (i + 1)) (hj.trans (insInner_stop (.inr c30)))))), hb, (by omega), hO13⟩ (by omega)
  · -- 18F
   refine st_step rfl (fun _ h9 => op_cmp (b := false) (ev_hit hN12 rfl) (ev_hit hN12 rfl) (b_gtr (decide_eq_false g18)) h9) ?_
   refine st_step rfl (fun _ h9 => op_move (ev_hit hN12 rfl) h9) ?_
   refine st_g_false (j := 3) (dj := 19) (b := true) rfl rfl rfl (ev_hit hN12 rfl) rfl rfl ?_
   refine st_g_false (j := 3) (dj := 19) (b := true) rfl rfl rfl (ev_hit hN12 rfl) rfl rfl ?_
   refine st_g_false (j := 3) (dj := 19) (b := true) rfl rfl rfl (ev_hit hN12 rfl) rfl rfl ?_
   refine st_g_false (j := 3) (dj := 19) (b := true) rfl rfl rfl (ev_hit hN12 rfl) rfl rfl ?_
   refine st_g_false (j := 3) (dj := 19) (b := true) rfl rfl rfl (ev_hit hN12 rfl) rfl rfl ?_
   refine st_g_false (j := 3) (dj := 19) (b := true) rfl rfl rfl (ev_hit hN12 rfl) rfl rfl ?_
   refine st_g_false (j := 3) (dj := 19) (b := true) rfl rfl rfl (ev_hit hN12 rfl) rfl rfl ?_
   refine st_g_false (j := 3) (dj := 19) (b := true) rfl rfl rfl (ev_hit hN12 rfl) rfl rfl ?_
   refine st_g_false (j := 3) (dj := 19) (b := true) rfl rfl rfl (ev_hit hN12 rfl) rfl rfl ?_
   refine st_g_false (j := 3) (dj := 19) (b := true) rfl rfl rfl (ev_hit hN12 rfl) rfl rfl ?_
   refine st_step rfl (fun _ h9 => op_pick_f (ev_hit hN12 rfl) rfl h9) ?_
   refine st_nil ?_
   refine hK15 _ _ ?_
   refine wp_cond_false (ev_hit hN12 rfl) ?_
   refine wp_exit (then_exit (then_exit (blk_hit ?_)))
   refine hK10 _ _ ?_
   refine one_reg ?_
   refine op_move (ev_base hN12 rfl s12_6) ?_
   refine op_add (ev_hit hN12 rfl) rfl (add64 (by omega)) ?_
   refine op_assign (ev_hit hN12 rfl) ?_
   refine reg_nil ?_
   -- round 12T 18F
   exact loop_next _ hN12 hd12 ⟨i + 1, _, rfl, (sl_base hN12 rfl s12_0), (sl_base hN12 rfl s12_1), (sl_base hN12 rfl s12_2), (sl_hit hN12 rfl).trans (congrArg (Value.int .i64) (by omega)), (by first | assumption | (simp only [Array.size_setIfInBounds, swp_sz, siftDown_size]; assumption)), (by omega), (ho.trans ((insOuter_go (by omega)).trans (congrArg (insOuter ltT a b (i + 1)) (hj.trans (insInner_stop (.inl (by omega))))))), hb, (by omega), hO13⟩ (by omega)
 · -- 12F
  refine reg_nil ?_
  refine hK9 _ _ ?_
  refine wp_cond_false (ev_hit hN6 rfl) ?_
  refine wp_exit (then_exit (then_exit (blk_hit ?_)))
  refine end_ret ?_
  refine ret0 rfl hd6  ⟨_, rfl, ?_⟩
  -- path 12F
  exact ⟨hb, rfl, hO7.cast rfl (by rw [show insertionSort ltT d a b = insOuter ltT a b (a + 1) d from rfl, ho, insOuter_stop (by omega)])⟩

end Go.Proofs.Ytpmnljffdofkeaa

/- Walks, written by a program: what each function of the translation hands back. -/
namespace Go.Proofs.Ytpmnljffdofkeaa
open Go.Gx Go.RowKit
attribute [local irreducible] wpList wpStill Code.wp Calls
open Go.Sort (insertionSort insOuter insInner swp siftDown heapSort heapBuild heapPop scanUp scanDown partition partLoop partitionEqual partEqLoop scanSorted partialIns bitsLen partialInsertionSort shiftDown shiftUp SortedIn reverseRange reverseLoop fixDown fixUp)
set_option maxHeartbeats 2000000 in
theorem siftDownW_ret (d : Ar) (v : Value) (n base : Nat) (lo hi fi : Nat) (w : World) (hd : d.size = n) (hn : n ≤ 4000000000000000000) (O : Own w base 35 1 v n (d.toList.map u16v)) (hfh : fi + hi ≤ n) (hlo : lo ≤ n) : Ret Try.prog 77 #[v, (Value.int .i64 ((lo : Nat) : Int)), (Value.int .i64 ((hi : Nat) : Int)), (Value.int .i64 ((fi : Nat) : Int))] w (fun v' w' => w.grownBy w' v.ownBlock ∧ v' = .tuple #[] ∧ Own w' base 35 1 v n ((siftDown ltT hi fi lo d).toList.map u16v)) := by
 have hb := grown_refl w v.ownBlock
 refine enter (N := 76) Try.func77 rfl rfl (by simp) fun a0 hN hd hA => ?_
 have s0 : a0.tmps.getD 0 undef = v := hA 0 (by simp)
 have s1 : a0.tmps.getD 1 undef = (Value.int .i64 ((lo : Nat) : Int)) := hA 1 (by simp)
 have s2 : a0.tmps.getD 2 undef = (Value.int .i64 ((hi : Nat) : Int)) := hA 2 (by simp)
 have s3 : a0.tmps.getD 3 undef = (Value.int .i64 ((fi : Nat) : Int)) := hA 3 (by simp)
 clear hA
 refine seq_any fun K26 hK26 => ?_
 refine one_reg ?_
 refine op_move (ev_base hN rfl s1) ?_
 refine op_assign (ev_hit hN rfl) ?_
 refine reg_nil ?_
 refine hK26 _ _ ?_
 refine wp_block ?_
 refine loop_m (fun mz_ az_ w' => ∃ (rt : Nat) (dk : Ar), mz_ = (hi + lo + 1 - rt) ∧ (az_.tmps.getD 0 undef = v) ∧ (az_.tmps.getD 2 undef = (Value.int .i64 ((hi : Nat) : Int))) ∧ (az_.tmps.getD 3 undef = (Value.int .i64 ((fi : Nat) : Int))) ∧ (az_.tmps.getD 8 undef = (Value.int .i64 ((rt : Nat) : Int))) ∧ (dk.size = n) ∧ (rt < hi ∨ rt = lo) ∧ (siftDown ltT hi fi lo d = siftDown ltT hi fi rt dk) ∧ (w.grownBy w' v.ownBlock) ∧ (w.heap.size ≤ w'.heap.size) ∧ (Own w' base 35 1 v n (dk.toList.map u16v))) _ hN hd ⟨lo, _, rfl, (sl_base hN rfl s0), (sl_base hN rfl s2), (sl_base hN rfl s3), (sl_hit hN rfl).trans (congrArg (Value.int .i64) (by omega)), (by first | assumption | (simp only [Array.size_setIfInBounds, swp_sz, siftDown_size]; assumption)), .inr rfl, rfl, hb, (Nat.le_refl _), O⟩ ?_
 rintro _ a27 w27 hN27 hd27 ⟨rt, dk, rfl, s27_0, s27_2, s27_3, s27_8, hdk, hrt, hs, hb, zl_w27, hO28⟩
 have z_w27 := hb.size
 refine wp_block ?_
 refine seq_any fun K29 hK29 => ?_
 refine one_reg ?_
 refine op_move (ev_base hN27 rfl s27_8) ?_
 refine op_mul rfl (ev_hit hN27 rfl) (mul64 (by omega)) ?_
 refine op_add (ev_hit hN27 rfl) rfl (add64 (by omega)) ?_
 refine op_assign (ev_hit hN27 rfl) ?_
 refine reg_nil ?_
 refine hK29 _ _ ?_
 refine seq_any fun K30 hK30 => ?_
 refine seq_any fun K31 hK31 => ?_
 refine one_reg ?_
 refine op_move (ev_hit hN27 rfl) ?_
 refine op_move (ev_base hN27 rfl s27_2) ?_
 refine op_geq (ev_hit hN27 rfl) (ev_hit hN27 rfl) (fun c16 => ?_) (fun c16 => ?_)
 · -- 16T
  refine reg_nil ?_
  refine hK31 _ _ ?_
  refine wp_cond_true (ev_hit hN27 rfl) ?_
  refine wp_exit (then_exit (blk_miss (by decide) (then_exit (blk_hit ?_))))
  refine end_ret ?_
  refine ret0 rfl hd27  ⟨_, rfl, ?_⟩
  -- path 16T
  exact ⟨hb, rfl, hO28.cast rfl (by rw [hs, siftDown_stop (by omega)])⟩
 · -- 16F
  refine reg_nil ?_
  refine hK31 _ _ ?_
  refine wp_cond_false (ev_hit hN27 rfl) ?_
  refine wp_skip ?_
  refine hK30 _ _ ?_
  refine seq_any fun K32 hK32 => ?_
  refine seq_any fun K33 hK33 => ?_
  refine reg_still mixed (by kernel_rfl) ?_
  intro w35 E34
  have z_w35 := E34.size
  have hO28 := hO28.keep0 E34
  have hb := grow_step0 hb E34
  refine st_step rfl (fun _ h9 => op_move (ev_hit hN27 rfl) h9) ?_
  refine st_step rfl (fun _ h9 => op_add (ev_hit hN27 rfl) rfl (add64 (by omega)) h9) ?_
  refine st_step rfl (fun _ h9 => op_move (ev_base hN27 rfl s27_2) h9) ?_
  by_cases g20 : (((2 * ((rt : Nat) : Int)) + 1) + 1) < ((hi : Nat) : Int)
  · -- 20T
   refine st_step rfl (fun _ h9 => op_cmp (b := true) (ev_hit hN27 rfl) (ev_hit hN27 rfl) (b_lss (decide_eq_true g20)) h9) ?_
   refine st_step rfl (fun _ h9 => op_move (ev_hit hN27 rfl) h9) ?_
   refine st_g_true (j := 4) (dj := 21) (b := true) rfl rfl rfl (ev_hit hN27 rfl) ?_
   refine st_step rfl (fun _ h9 => op_move (ev_base hN27 rfl s27_0) h9) ?_
   refine st_g_true (j := 4) (dj := 21) (b := true) rfl rfl rfl (ev_hit hN27 rfl) ?_
   refine st_step rfl (fun _ h9 => op_move (ev_base hN27 rfl s27_3) h9) ?_
   refine st_g_true (j := 4) (dj := 21) (b := true) rfl rfl rfl (ev_hit hN27 rfl) ?_
   refine st_step rfl (fun _ h9 => op_move (ev_hit hN27 rfl) h9) ?_
   refine st_g_true (j := 4) (dj := 21) (b := true) rfl rfl rfl (ev_hit hN27 rfl) ?_
   refine st_step rfl (fun _ h9 => op_add (ev_hit hN27 rfl) (ev_hit hN27 rfl) (add64 (by omega)) h9) ?_
   refine st_g_true (j := 4) (dj := 21) (b := true) rfl rfl rfl (ev_hit hN27 rfl) ?_
   refine st_index_rd slt22 (ev_hit hN27 rfl) hO28.rdw (ev_hit hN27 rfl) (by omega) (by omega) ?_
   intro b36 o37 h0b36 h1b36 hc38
   refine st_g_true (j := 4) (dj := 21) (b := true) rfl rfl rfl (ev_hit hN27 rfl) ?_
   refine st_step rfl (fun _ h9 => op_load1 (v := (Value.int .u16 (dk[(fi + ((2 * rt) + 1))]!.toNat : Int))) one35 (ev_hit hN27 rfl) (by have := hc38 0 (Value.int .u16 (dk[(fi + ((2 * rt) + 1))]!.toNat : Int)) (by decide) (el_arr (i := (fi + ((2 * rt) + 1))) (by omega) (by first | omega | (simp only [Array.size_setIfInBounds, swp_sz, siftDown_size]; omega))); simpa using this) h9) ?_
   refine st_g_true (j := 4) (dj := 21) (b := true) rfl rfl rfl (ev_hit hN27 rfl) ?_
   refine st_step rfl (fun _ h9 => op_move (ev_base hN27 rfl s27_0) h9) ?_
   refine st_g_true (j := 4) (dj := 21) (b := true) rfl rfl rfl (ev_hit hN27 rfl) ?_
   refine st_step rfl (fun _ h9 => op_move (ev_base hN27 rfl s27_3) h9) ?_
   refine st_g_true (j := 4) (dj := 21) (b := true) rfl rfl rfl (ev_hit hN27 rfl) ?_
   refine st_step rfl (fun _ h9 => op_move (ev_hit hN27 rfl) h9) ?_
   refine st_g_true (j := 4) (dj := 21) (b := true) rfl rfl rfl (ev_hit hN27 rfl) ?_
   refine st_step rfl (fun _ h9 => op_add (ev_hit hN27 rfl) (ev_hit hN27 rfl) (add64 (by omega)) h9) ?_
   refine st_g_true (j := 4) (dj := 21) (b := true) rfl rfl rfl (ev_hit hN27 rfl) ?_
   refine st_step rfl (fun _ h9 => op_add (ev_hit hN27 rfl) rfl (add64 (by omega)) h9) ?_
   refine st_g_true (j := 4) (dj := 21) (b := true) rfl rfl rfl (ev_hit hN27 rfl) ?_
   refine st_index_rd slt22 (ev_hit hN27 rfl) hO28.rdw (ev_hit hN27 rfl) (by omega) (by omega) ?_
   intro b39 o40 h0b39 h1b39 hc41
   refine st_g_true (j := 4) (dj := 21) (b := true) rfl rfl rfl (ev_hit hN27 rfl) ?_
   refine st_step rfl (fun _ h9 => op_load1 (v := (Value.int .u16 (dk[((fi + ((2 * rt) + 1)) + 1)]!.toNat : Int))) one35 (ev_hit hN27 rfl) (by have := hc41 0 (Value.int .u16 (dk[((fi + ((2 * rt) + 1)) + 1)]!.toNat : Int)) (by decide) (el_arr (i := ((fi + ((2 * rt) + 1)) + 1)) (by omega) (by first | omega | (simp only [Array.size_setIfInBounds, swp_sz, siftDown_size]; omega))); simpa using this) h9) ?_
   refine st_g_true (j := 4) (dj := 21) (b := true) rfl rfl rfl (ev_hit hN27 rfl) ?_
   refine st_fn (vs := [(Value.int .u16 (dk[(fi + ((2 * rt) + 1))]!.toNat : Int)), (Value.int .u16 (dk[((fi + ((2 * rt) + 1)) + 1)]!.toNat : Int))]) ok72 (⟨(ev_hit hN27 rfl), ⟨(ev_hit hN27 rfl), trivial⟩⟩) (Less16_ret dk[(fi + ((2 * rt) + 1))]! dk[((fi + ((2 * rt) + 1)) + 1)]! _) ?_
   refine st_step rfl (fun _ h9 => op_pick_t (ev_hit hN27 rfl) (ev_hit hN27 rfl) h9) ?_
   refine st_nil ?_
   refine hK33 _ _ ?_
   refine wp_cond_split (ev_hit hN27 rfl) (fun c36 => ?_) (fun c36 => ?_)
   · -- 36T
    refine one_reg ?_
    refine op_move (ev_hit hN27 rfl) ?_
    refine op_add (ev_hit hN27 rfl) rfl (add64 (by omega)) ?_
    refine op_assign (ev_hit hN27 rfl) ?_
    refine reg_nil ?_
    refine hK32 _ _ ?_
    refine seq_any fun K42 hK42 => ?_
    refine seq_any fun K43 hK43 => ?_
    refine reg_still mixed (by kernel_rfl) ?_
    intro w45 E44
    have z_w45 := E44.size
    have hO28 := hO28.keep0 E44
    have hb := grow_step0 hb E44
    refine st_step rfl (fun _ h9 => op_move (ev_base hN27 rfl s27_0) h9) ?_
    refine st_step rfl (fun _ h9 => op_move (ev_base hN27 rfl s27_3) h9) ?_
    refine st_step rfl (fun _ h9 => op_move (ev_base hN27 rfl s27_8) h9) ?_
    refine st_step rfl (fun _ h9 => op_add (ev_hit hN27 rfl) (ev_hit hN27 rfl) (add64 (by omega)) h9) ?_
    refine st_index_rd slt22 (ev_hit hN27 rfl) hO28.rdw (ev_hit hN27 rfl) (by omega) (by omega) ?_
    intro b46 o47 h0b46 h1b46 hc48
    refine st_step rfl (fun _ h9 => op_load1 (v := (Value.int .u16 (dk[(fi + rt)]!.toNat : Int))) one35 (ev_hit hN27 rfl) (by have := hc48 0 (Value.int .u16 (dk[(fi + rt)]!.toNat : Int)) (by decide) (el_arr (i := (fi + rt)) (by omega) (by first | omega | (simp only [Array.size_setIfInBounds, swp_sz, siftDown_size]; omega))); simpa using this) h9) ?_
    refine st_step rfl (fun _ h9 => op_move (ev_base hN27 rfl s27_0) h9) ?_
    refine st_step rfl (fun _ h9 => op_move (ev_base hN27 rfl s27_3) h9) ?_
    refine st_step rfl (fun _ h9 => op_move (ev_hit hN27 rfl) h9) ?_
    refine st_step rfl (fun _ h9 => op_add (ev_hit hN27 rfl) (ev_hit hN27 rfl) (add64 (by omega)) h9) ?_
    refine st_index_rd slt22 (ev_hit hN27 rfl) hO28.rdw (ev_hit hN27 rfl) (by omega) (by omega) ?_
    intro b49 o50 h0b49 h1b49 hc51
    refine st_step rfl (fun _ h9 => op_load1 (v := (Value.int .u16 (dk[(fi + (((2 * rt) + 1) + 1))]!.toNat : Int))) one35 (ev_hit hN27 rfl) (by have := hc51 0 (Value.int .u16 (dk[(fi + (((2 * rt) + 1) + 1))]!.toNat : Int)) (by decide) (el_arr (i := (fi + (((2 * rt) + 1) + 1))) (by omega) (by first | omega | (simp only [Array.size_setIfInBounds, swp_sz, siftDown_size]; omega))); simpa using this) h9) ?_
    refine st_fn (vs := [(Value.int .u16 (dk[(fi + rt)]!.toNat : Int)), (Value.int .u16 (dk[(fi + (((2 * rt) + 1) + 1))]!.toNat : Int))]) ok72 (⟨(ev_hit hN27 rfl), ⟨(ev_hit hN27 rfl), trivial⟩⟩) (Less16_ret dk[(fi + rt)]! dk[(fi + (((2 * rt) + 1) + 1))]! _) ?_
    refine st_step rfl (fun _ h9 => op_not (ev_hit hN27 rfl) h9) ?_
    refine st_nil ?_
    refine hK43 _ _ ?_
    refine wp_cond_split (ev_hit hN27 rfl) (fun c52 => ?_) (fun c52 => ?_)
    · -- 52T
     refine wp_ret (then_ret (blk_ret (then_ret (blk_ret ( ?_)))))
     refine ret0 rfl hd27  ⟨_, rfl, ?_⟩
     -- path 16F 20T 36T 52T
     have hch : childS hi fi rt dk = 2 * rt + 2 := childS_t (by omega) c36
     exact ⟨hb, rfl, hO28.cast rfl (by rw [hs, siftDown_ret (by omega) (by rw [hch]; simpa [Nat.add_assoc] using c52)])⟩
    · -- 52F
     refine wp_skip ?_
     refine hK42 _ _ ?_
     refine seq_any fun K52 hK52 => ?_
     refine reg_mid (e := 35) (sz := 1) (base := base) (n := n) (v := v) (Φ := phiL [(fun uz _ => uz = v), (fun uz _ => uz = (Value.int .i64 ((fi : Nat) : Int))), (fun uz _ => uz = (Value.int .i64 ((rt : Nat) : Int))), (fun uz _ => uz = (Value.int .i64 (((fi : Nat) : Int) + ((rt : Nat) : Int)))), (fun uz _ => uz = v), (fun uz _ => uz = (Value.int .i64 ((fi : Nat) : Int))), (fun uz _ => uz = (Value.int .i64 (((2 * ((rt : Nat) : Int)) + 1) + 1))), (fun uz _ => uz = (Value.int .i64 (((fi : Nat) : Int) + (((2 * ((rt : Nat) : Int)) + 1) + 1)))), (fun uz _ => uz = v), (fun uz _ => uz = (Value.int .i64 ((fi : Nat) : Int))), (fun uz _ => uz = (Value.int .i64 (((2 * ((rt : Nat) : Int)) + 1) + 1))), (fun uz _ => uz = (Value.int .i64 (((fi : Nat) : Int) + (((2 * ((rt : Nat) : Int)) + 1) + 1)))), (fun uz _ => ∃ bz oz, uz = ptr bz oz ∧ AtV v (fi + (((2 * rt) + 1) + 1)) bz oz), (fun uz _ => uz = (Value.int .u16 (dk[(fi + (((2 * rt) + 1) + 1))]!.toNat : Int))), (fun uz _ => uz = v), (fun uz _ => uz = (Value.int .i64 ((fi : Nat) : Int))), (fun uz _ => uz = (Value.int .i64 ((rt : Nat) : Int))), (fun uz _ => uz = (Value.int .i64 (((fi : Nat) : Int) + ((rt : Nat) : Int)))), (fun uz _ => ∃ bz oz, uz = ptr bz oz ∧ AtV v (fi + rt) bz oz), (fun uz _ => uz = (Value.int .u16 (dk[(fi + rt)]!.toNat : Int))), (fun uz _ => ∃ bz oz, uz = ptr bz oz ∧ AtV v (fi + rt) bz oz), (fun _ _ => True), (fun uz _ => ∃ bz oz, uz = ptr bz oz ∧ AtV v (fi + (((2 * rt) + 1) + 1)) bz oz), (fun _ _ => True)]) [21, 23] [(dk.toList.map u16v), ((dk.setIfInBounds (fi + rt) dk[(fi + (((2 * rt) + 1) + 1))]!).toList.map u16v), (((dk.setIfInBounds (fi + rt) dk[(fi + (((2 * rt) + 1) + 1))]!).setIfInBounds (fi + (((2 * rt) + 1) + 1)) dk[(fi + rt)]!).toList.map u16v)] mixed (by kernel_rfl) (by kernel_rfl) (by kernel_rfl) (by kernel_rfl) hN27 hO28 (StL.get (StL.eq (StL.eq (StL.eq (StL.eq (StL.eq (StL.eq (StL.eq (StL.eq (StL.eq (StL.eq (StL.eq (StL.eq (StL.at (StL.eq (StL.eq (StL.eq (StL.eq (StL.eq (StL.at (StL.eq (StL.at (StL.cons (fun _ _ _ _ h => h) (StL.at (StL.cons (fun _ _ _ _ h => h) (StL.nil _)))))))))))))))))))))))))) (ObRs.get (ObRs.cons ?_ (ObRs.cons ?_ (ObRs.cons ?_ (ObRs.cons ?_ (ObRs.cons ?_ (ObRs.cons ?_ (ObRs.cons ?_ (ObRs.cons ?_ (ObRs.cons ?_ (ObRs.cons ?_ (ObRs.cons ?_ (ObRs.cons ?_ (ObRs.cons ?_ (ObRs.cons ?_ (ObRs.cons ?_ (ObRs.cons ?_ (ObRs.cons ?_ (ObRs.cons ?_ (ObRs.cons ?_ (ObRs.cons ?_ (ObRs.cons ?_ (ObRs.pass rfl (ObRs.cons ?_ (ObRs.pass rfl (ObRs.nil)))))))))))))))))))))))))) (ObWs.get (ObWs.cons ?_ (ObWs.cons ?_ (ObWs.nil)))) ?_
     ·
      intro aA wA cA hNA hRA hckA hOA hbsA hdpA
      have qA_0 := (hbsA 0 rfl).trans (sl_base hN27 rfl s27_0)
      clear hbsA hdpA
      refine op_move (ev_base hNA rfl qA_0) ?_
      exact obR_end rfl rfl (grown_refl _ _)
     ·
      intro aA wA cA hNA hRA hckA hOA hbsA hdpA
      have qA_3 := (hbsA 3 rfl).trans (sl_base hN27 rfl s27_3)
      clear hbsA hdpA
      refine op_move (ev_base hNA rfl qA_3) ?_
      exact obR_end rfl rfl (grown_refl _ _)
     ·
      intro aA wA cA hNA hRA hckA hOA hbsA hdpA
      have qA_8 := (hbsA 8 rfl).trans (sl_base hN27 rfl s27_8)
      clear hbsA hdpA
      refine op_move (ev_base hNA rfl qA_8) ?_
      exact obR_end rfl rfl (grown_refl _ _)
     ·
      intro aA wA cA hNA hRA hckA hOA hbsA hdpA
      have qA_54 : Sl aA 54 (Value.int .i64 ((fi : Nat) : Int)) := hdpA 1 _ 54 (by kernel_rfl) rfl rfl
      have qA_55 : Sl aA 55 (Value.int .i64 ((rt : Nat) : Int)) := hdpA 2 _ 55 (by kernel_rfl) rfl rfl
      clear hbsA hdpA
      refine op_add (ev_base hNA rfl qA_54) (ev_base hNA rfl qA_55) (add64 (by omega)) ?_
      exact obR_end rfl rfl (grown_refl _ _)
     ·
      intro aA wA cA hNA hRA hckA hOA hbsA hdpA
      have qA_0 := (hbsA 0 rfl).trans (sl_base hN27 rfl s27_0)
      clear hbsA hdpA
      refine op_move (ev_base hNA rfl qA_0) ?_
      exact obR_end rfl rfl (grown_refl _ _)
     ·
      intro aA wA cA hNA hRA hckA hOA hbsA hdpA
      have qA_3 := (hbsA 3 rfl).trans (sl_base hN27 rfl s27_3)
      clear hbsA hdpA
      refine op_move (ev_base hNA rfl qA_3) ?_
      exact obR_end rfl rfl (grown_refl _ _)
     ·
      intro aA wA cA hNA hRA hckA hOA hbsA hdpA
      have qA_9 := (hbsA 9 rfl).trans (sl_hit hN27 rfl)
      clear hbsA hdpA
      refine op_move (ev_base hNA rfl qA_9) ?_
      exact obR_end rfl rfl (grown_refl _ _)
     ·
      intro aA wA cA hNA hRA hckA hOA hbsA hdpA
      have qA_58 : Sl aA 58 (Value.int .i64 ((fi : Nat) : Int)) := hdpA 5 _ 58 (by kernel_rfl) rfl rfl
      have qA_59 : Sl aA 59 (Value.int .i64 (((2 * ((rt : Nat) : Int)) + 1) + 1)) := hdpA 6 _ 59 (by kernel_rfl) rfl rfl
      clear hbsA hdpA
      refine op_add (ev_base hNA rfl qA_58) (ev_base hNA rfl qA_59) (add64 (by omega)) ?_
      exact obR_end rfl rfl (grown_refl _ _)
     ·
      intro aA wA cA hNA hRA hckA hOA hbsA hdpA
      have qA_0 := (hbsA 0 rfl).trans (sl_base hN27 rfl s27_0)
      clear hbsA hdpA
      refine op_move (ev_base hNA rfl qA_0) ?_
      exact obR_end rfl rfl (grown_refl _ _)
     ·
      intro aA wA cA hNA hRA hckA hOA hbsA hdpA
      have qA_3 := (hbsA 3 rfl).trans (sl_base hN27 rfl s27_3)
      clear hbsA hdpA
      refine op_move (ev_base hNA rfl qA_3) ?_
      exact obR_end rfl rfl (grown_refl _ _)
     ·
      intro aA wA cA hNA hRA hckA hOA hbsA hdpA
      have qA_9 := (hbsA 9 rfl).trans (sl_hit hN27 rfl)
      clear hbsA hdpA
      refine op_move (ev_base hNA rfl qA_9) ?_
      exact obR_end rfl rfl (grown_refl _ _)
     ·
      intro aA wA cA hNA hRA hckA hOA hbsA hdpA
      have qA_62 : Sl aA 62 (Value.int .i64 ((fi : Nat) : Int)) := hdpA 9 _ 62 (by kernel_rfl) rfl rfl
      have qA_63 : Sl aA 63 (Value.int .i64 (((2 * ((rt : Nat) : Int)) + 1) + 1)) := hdpA 10 _ 63 (by kernel_rfl) rfl rfl
      clear hbsA hdpA
      refine op_add (ev_base hNA rfl qA_62) (ev_base hNA rfl qA_63) (add64 (by omega)) ?_
      exact obR_end rfl rfl (grown_refl _ _)
     ·
      intro aA wA cA hNA hRA hckA hOA hbsA hdpA
      have qA_61 : Sl aA 61 v := hdpA 8 _ 61 (by kernel_rfl) rfl rfl
      have qA_64 : Sl aA 64 (Value.int .i64 (((fi : Nat) : Int) + (((2 * ((rt : Nat) : Int)) + 1) + 1))) := hdpA 11 _ 64 (by kernel_rfl) rfl rfl
      clear hbsA hdpA
      refine op_index_own (i := (fi + (((2 * rt) + 1) + 1))) slt22 (ev_base hNA rfl qA_61) hOA (ev_base hNA rfl qA_64) (by omega) (by omega) ?_
      intro b_ o_ _ hA_
      exact obR_end rfl ⟨b_, o_, rfl, by simpa using hA_⟩ (grown_refl _ _)
     ·
      intro aA wA cA hNA hRA hckA hOA hbsA hdpA
      obtain ⟨bA_65, oA_65, qA_65, hAA_65⟩ := hdpA 12 _ 65 (by kernel_rfl) rfl rfl
      clear hbsA hdpA
      obtain rfl : cA = 0 := Nat.le_zero.1 (hckA 0 21 rfl (by kernel_rfl))
      have hOA : Own wA base 35 1 v n (dk.toList.map u16v) := hOA
      refine op_load1 (v := (Value.int .u16 (dk[(fi + (((2 * rt) + 1) + 1))]!.toNat : Int))) one35 (ev_base hNA rfl qA_65) (by have := hOA.cellAt hAA_65 0 _ (el_at (i := (fi + (((2 * rt) + 1) + 1))) (by first | omega | (simp only [Array.size_setIfInBounds, swp_sz, siftDown_size]; omega))); simpa using this) ?_
      exact obR_end rfl rfl (grown_refl _ _)
     ·
      intro aA wA cA hNA hRA hckA hOA hbsA hdpA
      have qA_0 := (hbsA 0 rfl).trans (sl_base hN27 rfl s27_0)
      clear hbsA hdpA
      refine op_move (ev_base hNA rfl qA_0) ?_
      exact obR_end rfl rfl (grown_refl _ _)
     ·
      intro aA wA cA hNA hRA hckA hOA hbsA hdpA
      have qA_3 := (hbsA 3 rfl).trans (sl_base hN27 rfl s27_3)
      clear hbsA hdpA
      refine op_move (ev_base hNA rfl qA_3) ?_
      exact obR_end rfl rfl (grown_refl _ _)
     ·
      intro aA wA cA hNA hRA hckA hOA hbsA hdpA
      have qA_8 := (hbsA 8 rfl).trans (sl_base hN27 rfl s27_8)
      clear hbsA hdpA
      refine op_move (ev_base hNA rfl qA_8) ?_
      exact obR_end rfl rfl (grown_refl _ _)
     ·
      intro aA wA cA hNA hRA hckA hOA hbsA hdpA
      have qA_68 : Sl aA 68 (Value.int .i64 ((fi : Nat) : Int)) := hdpA 15 _ 68 (by kernel_rfl) rfl rfl
      have qA_69 : Sl aA 69 (Value.int .i64 ((rt : Nat) : Int)) := hdpA 16 _ 69 (by kernel_rfl) rfl rfl
      clear hbsA hdpA
      refine op_add (ev_base hNA rfl qA_68) (ev_base hNA rfl qA_69) (add64 (by omega)) ?_
      exact obR_end rfl rfl (grown_refl _ _)
     ·
      intro aA wA cA hNA hRA hckA hOA hbsA hdpA
      have qA_67 : Sl aA 67 v := hdpA 14 _ 67 (by kernel_rfl) rfl rfl
      have qA_70 : Sl aA 70 (Value.int .i64 (((fi : Nat) : Int) + ((rt : Nat) : Int))) := hdpA 17 _ 70 (by kernel_rfl) rfl rfl
      clear hbsA hdpA
      refine op_index_own (i := (fi + rt)) slt22 (ev_base hNA rfl qA_67) hOA (ev_base hNA rfl qA_70) (by omega) (by omega) ?_
      intro b_ o_ _ hA_
      exact obR_end rfl ⟨b_, o_, rfl, by simpa using hA_⟩ (grown_refl _ _)
     ·
      intro aA wA cA hNA hRA hckA hOA hbsA hdpA
      obtain ⟨bA_71, oA_71, qA_71, hAA_71⟩ := hdpA 18 _ 71 (by kernel_rfl) rfl rfl
      clear hbsA hdpA
      obtain rfl : cA = 0 := Nat.le_zero.1 (hckA 0 21 rfl (by kernel_rfl))
      have hOA : Own wA base 35 1 v n (dk.toList.map u16v) := hOA
      refine op_load1 (v := (Value.int .u16 (dk[(fi + rt)]!.toNat : Int))) one35 (ev_base hNA rfl qA_71) (by have := hOA.cellAt hAA_71 0 _ (el_at (i := (fi + rt)) (by first | omega | (simp only [Array.size_setIfInBounds, swp_sz, siftDown_size]; omega))); simpa using this) ?_
      exact obR_end rfl rfl (grown_refl _ _)
     ·
      intro aA wA cA hNA hRA hckA hOA hbsA hdpA
      have qA_53 : Sl aA 53 v := hdpA 0 _ 53 (by kernel_rfl) rfl rfl
      have qA_56 : Sl aA 56 (Value.int .i64 (((fi : Nat) : Int) + ((rt : Nat) : Int))) := hdpA 3 _ 56 (by kernel_rfl) rfl rfl
      clear hbsA hdpA
      refine op_index_own (i := (fi + rt)) slt22 (ev_base hNA rfl qA_53) hOA (ev_base hNA rfl qA_56) (by omega) (by omega) ?_
      intro b_ o_ _ hA_
      exact obR_end rfl ⟨b_, o_, rfl, by simpa using hA_⟩ (grown_refl _ _)
     ·
      intro aA wA cA hNA hRA hckA hOA hbsA hdpA
      have qA_57 : Sl aA 57 v := hdpA 4 _ 57 (by kernel_rfl) rfl rfl
      have qA_60 : Sl aA 60 (Value.int .i64 (((fi : Nat) : Int) + (((2 * ((rt : Nat) : Int)) + 1) + 1))) := hdpA 7 _ 60 (by kernel_rfl) rfl rfl
      clear hbsA hdpA
      refine op_index_own (i := (fi + (((2 * rt) + 1) + 1))) slt22 (ev_base hNA rfl qA_57) hOA (ev_base hNA rfl qA_60) (by omega) (by omega) ?_
      intro b_ o_ _ hA_
      exact obR_end rfl ⟨b_, o_, rfl, by simpa using hA_⟩ (grown_refl _ _)
     ·
      intro o_ ho_; obtain rfl := Option.some.inj ho_; intro aA wA hNA hRA hbsA hdpA hOA
      obtain ⟨bA_73, oA_73, qA_73, hAA_73⟩ := hdpA 20 _ 73 (by kernel_rfl) rfl rfl
      have qA_66 : Sl aA 66 (Value.int .u16 (dk[(fi + (((2 * rt) + 1) + 1))]!.toNat : Int)) := hdpA 13 _ 66 (by kernel_rfl) rfl rfl
      clear hbsA hdpA
      have hOA : Own wA base 35 1 v n (dk.toList.map u16v) := hOA
      refine op_store_own (vs := [(Value.int .u16 (dk[(fi + (((2 * rt) + 1) + 1))]!.toNat : Int))]) size35 (ev_base hNA rfl qA_73) (ev_base hNA rfl qA_66) rfl rfl rfl hOA hAA_73 (by have := hOA.1; simp at this ⊢; omega) ?_
      intro w_ hO_ E_
      exact obW_end rfl (hO_.cast rfl (set_arr (by first | omega | (simp only [Array.size_setIfInBounds, swp_sz, siftDown_size]; omega)))) E_
     ·
      intro o_ ho_; obtain rfl := Option.some.inj ho_; intro aA wA hNA hRA hbsA hdpA hOA
      obtain ⟨bA_74, oA_74, qA_74, hAA_74⟩ := hdpA 22 _ 74 (by kernel_rfl) rfl rfl
      have qA_72 : Sl aA 72 (Value.int .u16 (dk[(fi + rt)]!.toNat : Int)) := hdpA 19 _ 72 (by kernel_rfl) rfl rfl
      clear hbsA hdpA
      have hOA : Own wA base 35 1 v n ((dk.setIfInBounds (fi + rt) dk[(fi + (((2 * rt) + 1) + 1))]!).toList.map u16v) := hOA
      refine op_store_own (vs := [(Value.int .u16 (dk[(fi + rt)]!.toNat : Int))]) size35 (ev_base hNA rfl qA_74) (ev_base hNA rfl qA_72) rfl rfl rfl hOA hAA_74 (by have := hOA.1; simp at this ⊢; omega) ?_
      intro w_ hO_ E_
      exact obW_end rfl (hO_.cast rfl (set_arr (by first | omega | (simp only [Array.size_setIfInBounds, swp_sz, siftDown_size]; omega)))) E_
     ·
      intro a53 w53 hN53 hd53 hbs53 hph53 hO53 E53
      have hd53 := hd53.trans hd27
      have s53_0 := (hbs53 0 rfl).trans (sl_base hN27 rfl s27_0)
      have s53_2 := (hbs53 2 rfl).trans (sl_base hN27 rfl s27_2)
      have s53_3 := (hbs53 3 rfl).trans (sl_base hN27 rfl s27_3)
      have s53_8 := (hbs53 8 rfl).trans (sl_base hN27 rfl s27_8)
      have s53_9 := (hbs53 9 rfl).trans (sl_hit hN27 rfl)
      clear hbs53 hph53
      have hO53 : Own w53 base 35 1 v n (((dk.setIfInBounds (fi + rt) dk[(fi + (((2 * rt) + 1) + 1))]!).setIfInBounds (fi + (((2 * rt) + 1) + 1)) dk[(fi + rt)]!).toList.map u16v) := hO53
      have z_w53 := E53.size
      have hb := grow_stepX hb E53 rfl
      refine hK52 _ _ ?_
      refine one_reg ?_
      refine op_move (ev_base hN53 rfl s53_9) ?_
      refine op_assign (ev_hit hN53 rfl) ?_
      refine reg_nil ?_
      refine blk_normal ?_
      -- round 16F 20T 36T 52F
      have hch : childS hi fi rt dk = 2 * rt + 2 := childS_t (by omega) c36
      exact loop_next _ hN53 hd53 ⟨(2 * rt + 2), _, rfl, (sl_base hN53 rfl s53_0), (sl_base hN53 rfl s53_2), (sl_base hN53 rfl s53_3), (sl_hit hN53 rfl).trans (congrArg (Value.int .i64) (by omega)), (by first | assumption | (simp only [Array.size_setIfInBounds, swp_sz, siftDown_size]; assumption)), (by omega), (hs.trans ((siftDown_go (by omega) (by rw [hch]; simpa [Nat.add_assoc] using c52)).trans (by rw [hch]; rfl))), hb, (by omega), hO53⟩ (by omega)
   · -- 36F
    refine wp_skip ?_
    refine hK32 _ _ ?_
    refine seq_any fun K54 hK54 => ?_
    refine seq_any fun K55 hK55 => ?_
    refine reg_still mixed (by kernel_rfl) ?_
    intro w57 E56
    have z_w57 := E56.size
    have hO28 := hO28.keep0 E56
    have hb := grow_step0 hb E56
    refine st_step rfl (fun _ h9 => op_move (ev_base hN27 rfl s27_0) h9) ?_
    refine st_step rfl (fun _ h9 => op_move (ev_base hN27 rfl s27_3) h9) ?_
    refine st_step rfl (fun _ h9 => op_move (ev_base hN27 rfl s27_8) h9) ?_
    refine st_step rfl (fun _ h9 => op_add (ev_hit hN27 rfl) (ev_hit hN27 rfl) (add64 (by omega)) h9) ?_
    refine st_index_rd slt22 (ev_hit hN27 rfl) hO28.rdw (ev_hit hN27 rfl) (by omega) (by omega) ?_
    intro b58 o59 h0b58 h1b58 hc60
    refine st_step rfl (fun _ h9 => op_load1 (v := (Value.int .u16 (dk[(fi + rt)]!.toNat : Int))) one35 (ev_hit hN27 rfl) (by have := hc60 0 (Value.int .u16 (dk[(fi + rt)]!.toNat : Int)) (by decide) (el_arr (i := (fi + rt)) (by omega) (by first | omega | (simp only [Array.size_setIfInBounds, swp_sz, siftDown_size]; omega))); simpa using this) h9) ?_
    refine st_step rfl (fun _ h9 => op_move (ev_base hN27 rfl s27_0) h9) ?_
    refine st_step rfl (fun _ h9 => op_move (ev_base hN27 rfl s27_3) h9) ?_
    refine st_step rfl (fun _ h9 => op_move (ev_hit hN27 rfl) h9) ?_
    refine st_step rfl (fun _ h9 => op_add (ev_hit hN27 rfl) (ev_hit hN27 rfl) (add64 (by omega)) h9) ?_
    refine st_index_rd slt22 (ev_hit hN27 rfl) hO28.rdw (ev_hit hN27 rfl) (by omega) (by omega) ?_
    intro b61 o62 h0b61 h1b61 hc63
    refine st_step rfl (fun _ h9 => op_load1 (v := (Value.int .u16 (dk[(fi + ((2 * rt) + 1))]!.toNat : Int))) one35 (ev_hit hN27 rfl) (by have := hc63 0 (Value.int .u16 (dk[(fi + ((2 * rt) + 1))]!.toNat : Int)) (by decide) (el_arr (i := (fi + ((2 * rt) + 1))) (by omega) (by first | omega | (simp only [Array.size_setIfInBounds, swp_sz, siftDown_size]; omega))); simpa using this) h9) ?_
    refine st_fn (vs := [(Value.int .u16 (dk[(fi + rt)]!.toNat : Int)), (Value.int .u16 (dk[(fi + ((2 * rt) + 1))]!.toNat : Int))]) ok72 (⟨(ev_hit hN27 rfl), ⟨(ev_hit hN27 rfl), trivial⟩⟩) (Less16_ret dk[(fi + rt)]! dk[(fi + ((2 * rt) + 1))]! _) ?_
    refine st_step rfl (fun _ h9 => op_not (ev_hit hN27 rfl) h9) ?_
    refine st_nil ?_
    refine hK55 _ _ ?_
    refine wp_cond_split (ev_hit hN27 rfl) (fun c52 => ?_) (fun c52 => ?_)
    · -- 52T
     refine wp_ret (then_ret (blk_ret (then_ret (blk_ret ( ?_)))))
     refine ret0 rfl hd27  ⟨_, rfl, ?_⟩
     -- path 16F 20T 36F 52T
     have hch : childS hi fi rt dk = 2 * rt + 1 := childS_f (.inr c36)
     exact ⟨hb, rfl, hO28.cast rfl (by rw [hs, siftDown_ret (by omega) (by rw [hch]; simpa [Nat.add_assoc] using c52)])⟩
    · -- 52F
     refine wp_skip ?_
     refine hK54 _ _ ?_
     refine seq_any fun K64 hK64 => ?_
     refine reg_mid (e := 35) (sz := 1) (base := base) (n := n) (v := v) (Φ := phiL [(fun uz _ => uz = v), (fun uz _ => uz = (Value.int .i64 ((fi : Nat) : Int))), (fun uz _ => uz = (Value.int .i64 ((rt : Nat) : Int))), (fun uz _ => uz = (Value.int .i64 (((fi : Nat) : Int) + ((rt : Nat) : Int)))), (fun uz _ => uz = v), (fun uz _ => uz = (Value.int .i64 ((fi : Nat) : Int))), (fun uz _ => uz = (Value.int .i64 ((2 * ((rt : Nat) : Int)) + 1))), (fun uz _ => uz = (Value.int .i64 (((fi : Nat) : Int) + ((2 * ((rt : Nat) : Int)) + 1)))), (fun uz _ => uz = v), (fun uz _ => uz = (Value.int .i64 ((fi : Nat) : Int))), (fun uz _ => uz = (Value.int .i64 ((2 * ((rt : Nat) : Int)) + 1))), (fun uz _ => uz = (Value.int .i64 (((fi : Nat) : Int) + ((2 * ((rt : Nat) : Int)) + 1)))), (fun uz _ => ∃ bz oz, uz = ptr bz oz ∧ AtV v (fi + ((2 * rt) + 1)) bz oz), (fun uz _ => uz = (Value.int .u16 (dk[(fi + ((2 * rt) + 1))]!.toNat : Int))), (fun uz _ => uz = v), (fun uz _ => uz = (Value.int .i64 ((fi : Nat) : Int))), (fun uz _ => uz = (Value.int .i64 ((rt : Nat) : Int))), (fun uz _ => uz = (Value.int .i64 (((fi : Nat) : Int) + ((rt : Nat) : Int)))), (fun uz _ => ∃ bz oz, uz = ptr bz oz ∧ AtV v (fi + rt) bz oz), (fun uz _ => uz = (Value.int .u16 (dk[(fi + rt)]!.toNat : Int))), (fun uz _ => ∃ bz oz, uz = ptr bz oz ∧ AtV v (fi + rt) bz oz), (fun _ _ => True), (fun uz _ => ∃ bz oz, uz = ptr bz oz ∧ AtV v (fi + ((2 * rt) + 1)) bz oz), (fun _ _ => True)]) [21, 23] [(dk.toList.map u16v), ((dk.setIfInBounds (fi + rt) dk[(fi + ((2 * rt) + 1))]!).toList.map u16v), (((dk.setIfInBounds (fi + rt) dk[(fi + ((2 * rt) + 1))]!).setIfInBounds (fi + ((2 * rt) + 1)) dk[(fi + rt)]!).toList.map u16v)] mixed (by kernel_rfl) (by kernel_rfl) (by kernel_rfl) (by kernel_rfl) hN27 hO28 (StL.get (StL.eq (StL.eq (StL.eq (StL.eq (StL.eq (StL.eq (StL.eq (StL.eq (StL.eq (StL.eq (StL.eq (StL.eq (StL.at (StL.eq (StL.eq (StL.eq (StL.eq (StL.eq (StL.at (StL.eq (StL.at (StL.cons (fun _ _ _ _ h => h) (StL.at (StL.cons (fun _ _ _ _ h => h) (StL.nil _)))))))))))))))))))))))))) (ObRs.get (ObRs.cons ?_ (ObRs.cons ?_ (ObRs.cons ?_ (ObRs.cons ?_ (ObRs.cons ?_ (ObRs.cons ?_ (ObRs.cons ?_ (ObRs.cons ?_ (ObRs.cons ?_ (ObRs.cons ?_ (ObRs.cons ?_ (ObRs.cons ?_ (ObRs.cons ?_ (ObRs.cons ?_ (ObRs.cons ?_ (ObRs.cons ?_ (ObRs.cons ?_ (ObRs.cons ?_ (ObRs.cons ?_ (ObRs.cons ?_ (ObRs.cons ?_ (ObRs.pass rfl (ObRs.cons ?_ (ObRs.pass rfl (ObRs.nil)))))))))))))))))))))))))) (ObWs.get (ObWs.cons ?_ (ObWs.cons ?_ (ObWs.nil)))) ?_
     ·
      intro aA wA cA hNA hRA hckA hOA hbsA hdpA
      have qA_0 := (hbsA 0 rfl).trans (sl_base hN27 rfl s27_0)
      clear hbsA hdpA
      refine op_move (ev_base hNA rfl qA_0) ?_
      exact obR_end rfl rfl (grown_refl _ _)
     ·
      intro aA wA cA hNA hRA hckA hOA hbsA hdpA
      have qA_3 := (hbsA 3 rfl).trans (sl_base hN27 rfl s27_3)
      clear hbsA hdpA
      refine op_move (ev_base hNA rfl qA_3) ?_
      exact obR_end rfl rfl (grown_refl _ _)
     ·
      intro aA wA cA hNA hRA hckA hOA hbsA hdpA
      have qA_8 := (hbsA 8 rfl).trans (sl_base hN27 rfl s27_8)
      clear hbsA hdpA
      refine op_move (ev_base hNA rfl qA_8) ?_
      exact obR_end rfl rfl (grown_refl _ _)
     ·
      intro aA wA cA hNA hRA hckA hOA hbsA hdpA
      have qA_54 : Sl aA 54 (Value.int .i64 ((fi : Nat) : Int)) := hdpA 1 _ 54 (by kernel_rfl) rfl rfl
      have qA_55 : Sl aA 55 (Value.int .i64 ((rt : Nat) : Int)) := hdpA 2 _ 55 (by kernel_rfl) rfl rfl
      clear hbsA hdpA
      refine op_add (ev_base hNA rfl qA_54) (ev_base hNA rfl qA_55) (add64 (by omega)) ?_
      exact obR_end rfl rfl (grown_refl _ _)
     ·
      intro aA wA cA hNA hRA hckA hOA hbsA hdpA
      have qA_0 := (hbsA 0 rfl).trans (sl_base hN27 rfl s27_0)
      clear hbsA hdpA
      refine op_move (ev_base hNA rfl qA_0) ?_
      exact obR_end rfl rfl (grown_refl _ _)
     ·
      intro aA wA cA hNA hRA hckA hOA hbsA hdpA
      have qA_3 := (hbsA 3 rfl).trans (sl_base hN27 rfl s27_3)
      clear hbsA hdpA
      refine op_move (ev_base hNA rfl qA_3) ?_
      exact obR_end rfl rfl (grown_refl _ _)
     ·
      intro aA wA cA hNA hRA hckA hOA hbsA hdpA
      have qA_9 := (hbsA 9 rfl).trans (sl_hit hN27 rfl)
      clear hbsA hdpA
      refine op_move (ev_base hNA rfl qA_9) ?_
      exact obR_end rfl rfl (grown_refl _ _)
     ·
      intro aA wA cA hNA hRA hckA hOA hbsA hdpA
      have qA_58 : Sl aA 58 (Value.int .i64 ((fi : Nat) : Int)) := hdpA 5 _ 58 (by kernel_rfl) rfl rfl
      have qA_59 : Sl aA 59 (Value.int .i64 ((2 * ((rt : Nat) : Int)) + 1)) := hdpA 6 _ 59 (by kernel_rfl) rfl rfl
      clear hbsA hdpA
      refine op_add (ev_base hNA rfl qA_58) (ev_base hNA rfl qA_59) (add64 (by omega)) ?_
      exact obR_end rfl rfl (grown_refl _ _)
     ·
      intro aA wA cA hNA hRA hckA hOA hbsA hdpA
      have qA_0 := (hbsA 0 rfl).trans (sl_base hN27 rfl s27_0)
      clear hbsA hdpA
      refine op_move (ev_base hNA rfl qA_0) ?_
      exact obR_end rfl rfl (grown_refl _ _)
     ·
      intro aA wA cA hNA hRA hckA hOA hbsA hdpA
      have qA_3 := (hbsA 3 rfl).trans (sl_base hN27 rfl s27_3)
      clear hbsA hdpA
      refine op_move (ev_base hNA rfl qA_3) ?_
      exact obR_end rfl rfl (grown_refl _ _)
     ·
      intro aA wA cA hNA hRA hckA hOA hbsA hdpA
      have qA_9 := (hbsA 9 rfl).trans (sl_hit hN27 rfl)
      clear hbsA hdpA
      refine op_move (ev_base hNA rfl qA_9) ?_
      exact obR_end rfl rfl (grown_refl _ _)
     ·
      intro aA wA cA hNA hRA hckA hOA hbsA hdpA
      have qA_62 : Sl aA 62 (Value.int .i64 ((fi : Nat) : Int)) := hdpA 9 _ 62 (by kernel_rfl) rfl rfl
      have qA_63 : Sl aA 63 (Value.int .i64 ((2 * ((rt : Nat) : Int)) + 1)) := hdpA 10 _ 63 (by kernel_rfl) rfl rfl
      clear hbsA hdpA
      refine op_add (ev_base hNA rfl qA_62) (ev_base hNA rfl qA_63) (add64 (by omega)) ?_
      exact obR_end rfl rfl (grown_refl _ _)
     ·
      intro aA wA cA hNA hRA hckA hOA hbsA hdpA
      have qA_61 : Sl aA 61 v := hdpA 8 _ 61 (by kernel_rfl) rfl rfl
      have qA_64 : Sl aA 64 (Value.int .i64 (((fi : Nat) : Int) + ((2 * ((rt : Nat) : Int)) + 1))) := hdpA 11 _ 64 (by kernel_rfl) rfl rfl
      clear hbsA hdpA
      refine op_index_own (i := (fi + ((2 * rt) + 1))) slt22 (ev_base hNA rfl qA_61) hOA (ev_base hNA rfl qA_64) (by omega) (by omega) ?_
      intro b_ o_ _ hA_
      exact obR_end rfl ⟨b_, o_, rfl, by simpa using hA_⟩ (grown_refl _ _)
     ·
      intro aA wA cA hNA hRA hckA hOA hbsA hdpA
      obtain ⟨bA_65, oA_65, qA_65, hAA_65⟩ := hdpA 12 _ 65 (by kernel_rfl) rfl rfl
      clear hbsA hdpA
      obtain rfl : cA = 0 := Nat.le_zero.1 (hckA 0 21 rfl (by kernel_rfl))
      have hOA : Own wA base 35 1 v n (dk.toList.map u16v) := hOA
      refine op_load1 (v := (Value.int .u16 (dk[(fi + ((2 * rt) + 1))]!.toNat : Int))) one35 (ev_base hNA rfl qA_65) (by have := hOA.cellAt hAA_65 0 _ (el_at (i := (fi + ((2 * rt) + 1))) (by first | omega | (simp only [Array.size_setIfInBounds, swp_sz, siftDown_size]; omega))); simpa using this) ?_
      exact obR_end rfl rfl (grown_refl _ _)
     ·
      intro aA wA cA hNA hRA hckA hOA hbsA hdpA
      have qA_0 := (hbsA 0 rfl).trans (sl_base hN27 rfl s27_0)
      clear hbsA hdpA
      refine op_move (ev_base hNA rfl qA_0) ?_
      exact obR_end rfl rfl (grown_refl _ _)
     ·
      intro aA wA cA hNA hRA hckA hOA hbsA hdpA
      have qA_3 := (hbsA 3 rfl).trans (sl_base hN27 rfl s27_3)
      clear hbsA hdpA
      refine op_move (ev_base hNA rfl qA_3) ?_
      exact obR_end rfl rfl (grown_refl _ _)
     ·
      intro aA wA cA hNA hRA hckA hOA hbsA hdpA
      have qA_8 := (hbsA 8 rfl).trans (sl_base hN27 rfl s27_8)
      clear hbsA hdpA
      refine op_move (ev_base hNA rfl qA_8) ?_
      exact obR_end rfl rfl (grown_refl _ _)
     ·
      intro aA wA cA hNA hRA hckA hOA hbsA hdpA
      have qA_68 : Sl aA 68 (Value.int .i64 ((fi : Nat) : Int)) := hdpA 15 _ 68 (by kernel_rfl) rfl rfl
      have qA_69 : Sl aA 69 (Value.int .i64 ((rt : Nat) : Int)) := hdpA 16 _ 69 (by kernel_rfl) rfl rfl
      clear hbsA hdpA
      refine op_add (ev_base hNA rfl qA_68) (ev_base hNA rfl qA_69) (add64 (by omega)) ?_
      exact obR_end rfl rfl (grown_refl _ _)
     ·
      intro aA wA cA hNA hRA hckA hOA hbsA hdpA
      have qA_67 : Sl aA 67 v := hdpA 14 _ 67 (by kernel_rfl) rfl rfl
      have qA_70 : Sl aA 70 (Value.int .i64 (((fi : Nat) : Int) + ((rt : Nat) : Int))) := hdpA 17 _ 70 (by kernel_rfl) rfl rfl
      clear hbsA hdpA
      refine op_index_own (i := (fi + rt)) slt22 (ev_base hNA rfl qA_67) hOA (ev_base hNA rfl qA_70) (by omega) (by omega) ?_
      intro b_ o_ _ hA_
      exact obR_end rfl ⟨b_, o_, rfl, by simpa using hA_⟩ (grown_refl _ _)
     ·
      intro aA wA cA hNA hRA hckA hOA hbsA hdpA
      obtain ⟨bA_71, oA_71, qA_71, hAA_71⟩ := hdpA 18 _ 71 (by kernel_rfl) rfl rfl
      clear hbsA hdpA
      obtain rfl : cA = 0 := Nat.le_zero.1 (hckA 0 21 rfl (by kernel_rfl))
      have hOA : Own wA base 35 1 v n (dk.toList.map u16v) := hOA
      refine op_load1 (v := (Value.int .u16 (dk[(fi + rt)]!.toNat : Int))) one35 (ev_base hNA rfl qA_71) (by have := hOA.cellAt hAA_71 0 _ (el_at (i := (fi + rt)) (by first | omega | (simp only [Array.size_setIfInBounds, swp_sz, siftDown_size]; omega))); simpa using this) ?_
      exact obR_end rfl rfl (grown_refl _ _)
     ·
      intro aA wA cA hNA hRA hckA hOA hbsA hdpA
      have qA_53 : Sl aA 53 v := hdpA 0 _ 53 (by kernel_rfl) rfl rfl
      have qA_56 : Sl aA 56 (Value.int .i64 (((fi : Nat) : Int) + ((rt : Nat) : Int))) := hdpA 3 _ 56 (by kernel_rfl) rfl rfl
      clear hbsA hdpA
      refine op_index_own (i := (fi + rt)) slt22 (ev_base hNA rfl qA_53) hOA (ev_base hNA rfl qA_56) (by omega) (by omega) ?_
      intro b_ o_ _ hA_
      exact obR_end rfl ⟨b_, o_, rfl, by simpa using hA_⟩ (grown_refl _ _)
     ·
      intro aA wA cA hNA hRA hckA hOA hbsA hdpA
      have qA_57 : Sl aA 57 v := hdpA 4 _ 57 (by kernel_rfl) rfl rfl
      have qA_60 : Sl aA 60 (Value.int .i64 (((fi : Nat) : Int) + ((2 * ((rt : Nat) : Int)) + 1))) := hdpA 7 _ 60 (by kernel_rfl) rfl rfl
      clear hbsA hdpA
      refine op_index_own (i := (fi + ((2 * rt) + 1))) slt22 (ev_base hNA rfl qA_57) hOA (ev_base hNA rfl qA_60) (by omega) (by omega) ?_
      intro b_ o_ _ hA_
      exact obR_end rfl ⟨b_, o_, rfl, by simpa using hA_⟩ (grown_refl _ _)
     ·
      intro o_ ho_; obtain rfl := Option.some.inj ho_; intro aA wA hNA hRA hbsA hdpA hOA
      obtain ⟨bA_73, oA_73, qA_73, hAA_73⟩ := hdpA 20 _ 73 (by kernel_rfl) rfl rfl
      have qA_66 : Sl aA 66 (Value.int .u16 (dk[(fi + ((2 * rt) + 1))]!.toNat : Int)) := hdpA 13 _ 66 (by kernel_rfl) rfl rfl
      clear hbsA hdpA
      have hOA : Own wA base 35 1 v n (dk.toList.map u16v) := hOA
      refine op_store_own (vs := [(Value.int .u16 (dk[(fi + ((2 * rt) + 1))]!.toNat : Int))]) size35 (ev_base hNA rfl qA_73) (ev_base hNA rfl qA_66) rfl rfl rfl hOA hAA_73 (by have := hOA.1; simp at this ⊢; omega) ?_
      intro w_ hO_ E_
      exact obW_end rfl (hO_.cast rfl (set_arr (by first | omega | (simp only [Array.size_setIfInBounds, swp_sz, siftDown_size]; omega)))) E_
     ·
      intro o_ ho_; obtain rfl := Option.some.inj ho_; intro aA wA hNA hRA hbsA hdpA hOA
      obtain ⟨bA_74, oA_74, qA_74, hAA_74⟩ := hdpA 22 _ 74 (by kernel_rfl) rfl rfl
      have qA_72 : Sl aA 72 (Value.int .u16 (dk[(fi + rt)]!.toNat : Int)) := hdpA 19 _ 72 (by kernel_rfl) rfl rfl
      clear hbsA hdpA
      have hOA : Own wA base 35 1 v n ((dk.setIfInBounds (fi + rt) dk[(fi + ((2 * rt) + 1))]!).toList.map u16v) := hOA
      refine op_store_own (vs := [(Value.int .u16 (dk[(fi + rt)]!.toNat : Int))]) size35 (ev_base hNA rfl qA_74) (ev_base hNA rfl qA_72) rfl rfl rfl hOA hAA_74 (by have := hOA.1; simp at this ⊢; omega) ?_
      intro w_ hO_ E_
      exact obW_end rfl (hO_.cast rfl (set_arr (by first | omega | (simp only [Array.size_setIfInBounds, swp_sz, siftDown_size]; omega)))) E_
     ·
      intro a65 w65 hN65 hd65 hbs65 hph65 hO65 E65
      have hd65 := hd65.trans hd27
      have s65_0 := (hbs65 0 rfl).trans (sl_base hN27 rfl s27_0)
      have s65_2 := (hbs65 2 rfl).trans (sl_base hN27 rfl s27_2)
      have s65_3 := (hbs65 3 rfl).trans (sl_base hN27 rfl s27_3)
      have s65_8 := (hbs65 8 rfl).trans (sl_base hN27 rfl s27_8)
      have s65_9 := (hbs65 9 rfl).trans (sl_hit hN27 rfl)
      clear hbs65 hph65
      have hO65 : Own w65 base 35 1 v n (((dk.setIfInBounds (fi + rt) dk[(fi + ((2 * rt) + 1))]!).setIfInBounds (fi + ((2 * rt) + 1)) dk[(fi + rt)]!).toList.map u16v) := hO65
      have z_w65 := E65.size
      have hb := grow_stepX hb E65 rfl
      refine hK64 _ _ ?_
      refine one_reg ?_
      refine op_move (ev_base hN65 rfl s65_9) ?_
      refine op_assign (ev_hit hN65 rfl) ?_
      refine reg_nil ?_
      refine blk_normal ?_
      -- round 16F 20T 36F 52F
      have hch : childS hi fi rt dk = 2 * rt + 1 := childS_f (.inr c36)
      exact loop_next _ hN65 hd65 ⟨(2 * rt + 1), _, rfl, (sl_base hN65 rfl s65_0), (sl_base hN65 rfl s65_2), (sl_base hN65 rfl s65_3), (sl_hit hN65 rfl).trans (congrArg (Value.int .i64) (by omega)), (by first | assumption | (simp only [Array.size_setIfInBounds, swp_sz, siftDown_size]; assumption)), (by omega), (hs.trans ((siftDown_go (by omega) (by rw [hch]; simpa [Nat.add_assoc] using c52)).trans (by rw [hch]; rfl))), hb, (by omega), hO65⟩ (by omega)
  · -- 20F
   refine st_step rfl (fun _ h9 => op_cmp (b := false) (ev_hit hN27 rfl) (ev_hit hN27 rfl) (b_lss (decide_eq_false g20)) h9) ?_
   refine st_step rfl (fun _ h9 => op_move (ev_hit hN27 rfl) h9) ?_
   refine st_g_false (j := 4) (dj := 21) (b := true) rfl rfl rfl (ev_hit hN27 rfl) rfl rfl ?_
   refine st_g_false (j := 4) (dj := 21) (b := true) rfl rfl rfl (ev_hit hN27 rfl) rfl rfl ?_
   refine st_g_false (j := 4) (dj := 21) (b := true) rfl rfl rfl (ev_hit hN27 rfl) rfl rfl ?_
   refine st_g_false (j := 4) (dj := 21) (b := true) rfl rfl rfl (ev_hit hN27 rfl) rfl rfl ?_
   refine st_g_false (j := 4) (dj := 21) (b := true) rfl rfl rfl (ev_hit hN27 rfl) rfl rfl ?_
   refine st_g_false (j := 4) (dj := 21) (b := true) rfl rfl rfl (ev_hit hN27 rfl) rfl rfl ?_
   refine st_g_false (j := 4) (dj := 21) (b := true) rfl rfl rfl (ev_hit hN27 rfl) rfl rfl ?_
   refine st_g_false (j := 4) (dj := 21) (b := true) rfl rfl rfl (ev_hit hN27 rfl) rfl rfl ?_
   refine st_g_false (j := 4) (dj := 21) (b := true) rfl rfl rfl (ev_hit hN27 rfl) rfl rfl ?_
   refine st_g_false (j := 4) (dj := 21) (b := true) rfl rfl rfl (ev_hit hN27 rfl) rfl rfl ?_
   refine st_g_false (j := 4) (dj := 21) (b := true) rfl rfl rfl (ev_hit hN27 rfl) rfl rfl ?_
   refine st_g_false (j := 4) (dj := 21) (b := true) rfl rfl rfl (ev_hit hN27 rfl) rfl rfl ?_
   refine st_g_false (j := 4) (dj := 21) (b := true) rfl rfl rfl (ev_hit hN27 rfl) rfl rfl ?_
   refine st_g_false (j := 4) (dj := 21) (b := true) rfl rfl rfl (ev_hit hN27 rfl) rfl rfl ?_
   refine st_step rfl (fun _ h9 => op_pick_f (ev_hit hN27 rfl) rfl h9) ?_
   refine st_nil ?_
   refine hK33 _ _ ?_
   refine wp_cond_false (ev_hit hN27 rfl) ?_
   refine wp_skip ?_
   refine hK32 _ _ ?_
   refine seq_any fun K66 hK66 => ?_
   refine seq_any fun K67 hK67 => ?_
   refine reg_still mixed (by kernel_rfl) ?_
   intro w69 E68
   have z_w69 := E68.size
   have hO28 := hO28.keep0 E68
   have hb := grow_step0 hb E68
   refine st_step rfl (fun _ h9 => op_move (ev_base hN27 rfl s27_0) h9) ?_
   refine st_step rfl (fun _ h9 => op_move (ev_base hN27 rfl s27_3) h9) ?_
   refine st_step rfl (fun _ h9 => op_move (ev_base hN27 rfl s27_8) h9) ?_
   refine st_step rfl (fun _ h9 => op_add (ev_hit hN27 rfl) (ev_hit hN27 rfl) (add64 (by omega)) h9) ?_
   refine st_index_rd slt22 (ev_hit hN27 rfl) hO28.rdw (ev_hit hN27 rfl) (by omega) (by omega) ?_
   intro b70 o71 h0b70 h1b70 hc72
   refine st_step rfl (fun _ h9 => op_load1 (v := (Value.int .u16 (dk[(fi + rt)]!.toNat : Int))) one35 (ev_hit hN27 rfl) (by have := hc72 0 (Value.int .u16 (dk[(fi + rt)]!.toNat : Int)) (by decide) (el_arr (i := (fi + rt)) (by omega) (by first | omega | (simp only [Array.size_setIfInBounds, swp_sz, siftDown_size]; omega))); simpa using this) h9) ?_
   refine st_step rfl (fun _ h9 => op_move (ev_base hN27 rfl s27_0) h9) ?_
   refine st_step rfl (fun _ h9 => op_move (ev_base hN27 rfl s27_3) h9) ?_
   refine st_step rfl (fun _ h9 => op_move (ev_hit hN27 rfl) h9) ?_
   refine st_step rfl (fun _ h9 => op_add (ev_hit hN27 rfl) (ev_hit hN27 rfl) (add64 (by omega)) h9) ?_
   refine st_index_rd slt22 (ev_hit hN27 rfl) hO28.rdw (ev_hit hN27 rfl) (by omega) (by omega) ?_
   intro b73 o74 h0b73 h1b73 hc75
   refine st_step rfl (fun _ h9 => op_load1 (v := (Value.int .u16 (dk[(fi + ((2 * rt) + 1))]!.toNat : Int))) one35 (ev_hit hN27 rfl) (by have := hc75 0 (Value.int .u16 (dk[(fi + ((2 * rt) + 1))]!.toNat : Int)) (by decide) (el_arr (i := (fi + ((2 * rt) + 1))) (by omega) (by first | omega | (simp only [Array.size_setIfInBounds, swp_sz, siftDown_size]; omega))); simpa using this) h9) ?_
   refine st_fn (vs := [(Value.int .u16 (dk[(fi + rt)]!.toNat : Int)), (Value.int .u16 (dk[(fi + ((2 * rt) + 1))]!.toNat : Int))]) ok72 (⟨(ev_hit hN27 rfl), ⟨(ev_hit hN27 rfl), trivial⟩⟩) (Less16_ret dk[(fi + rt)]! dk[(fi + ((2 * rt) + 1))]! _) ?_
   refine st_step rfl (fun _ h9 => op_not (ev_hit hN27 rfl) h9) ?_
   refine st_nil ?_
   refine hK67 _ _ ?_
   refine wp_cond_split (ev_hit hN27 rfl) (fun c52 => ?_) (fun c52 => ?_)
   · -- 52T
    refine wp_ret (then_ret (blk_ret (then_ret (blk_ret ( ?_)))))
    refine ret0 rfl hd27  ⟨_, rfl, ?_⟩
    -- path 16F 20F 52T
    have hch : childS hi fi rt dk = 2 * rt + 1 := childS_f (.inl (by omega))
    exact ⟨hb, rfl, hO28.cast rfl (by rw [hs, siftDown_ret (by omega) (by rw [hch]; simpa [Nat.add_assoc] using c52)])⟩
   · -- 52F
    refine wp_skip ?_
    refine hK66 _ _ ?_
    refine seq_any fun K76 hK76 => ?_
    refine reg_mid (e := 35) (sz := 1) (base := base) (n := n) (v := v) (Φ := phiL [(fun uz _ => uz = v), (fun uz _ => uz = (Value.int .i64 ((fi : Nat) : Int))), (fun uz _ => uz = (Value.int .i64 ((rt : Nat) : Int))), (fun uz _ => uz = (Value.int .i64 (((fi : Nat) : Int) + ((rt : Nat) : Int)))), (fun uz _ => uz = v), (fun uz _ => uz = (Value.int .i64 ((fi : Nat) : Int))), (fun uz _ => uz = (Value.int .i64 ((2 * ((rt : Nat) : Int)) + 1))), (fun uz _ => uz = (Value.int .i64 (((fi : Nat) : Int) + ((2 * ((rt : Nat) : Int)) + 1)))), (fun uz _ => uz = v), (fun uz _ => uz = (Value.int .i64 ((fi : Nat) : Int))), (fun uz _ => uz = (Value.int .i64 ((2 * ((rt : Nat) : Int)) + 1))), (fun uz _ => uz = (Value.int .i64 (((fi : Nat) : Int) + ((2 * ((rt : Nat) : Int)) + 1)))), (fun uz _ => ∃ bz oz, uz = ptr bz oz ∧ AtV v (fi + ((2 * rt) + 1)) bz oz), (fun uz _ => uz = (Value.int .u16 (dk[(fi + ((2 * rt) + 1))]!.toNat : Int))), (fun uz _ => uz = v), (fun uz _ => uz = (Value.int .i64 ((fi : Nat) : Int))), (fun uz _ => uz = (Value.int .i64 ((rt : Nat) : Int))), (fun uz _ => uz = (Value.int .i64 (((fi : Nat) : Int) + ((rt : Nat) : Int)))), (fun uz _ => ∃ bz oz, uz = ptr bz oz ∧ AtV v (fi + rt) bz oz), (fun uz _ => uz = (Value.int .u16 (dk[(fi + rt)]!.toNat : Int))), (fun uz _ => ∃ bz oz, uz = ptr bz oz ∧ AtV v (fi + rt) bz oz), (fun _ _ => True), (fun uz _ => ∃ bz oz, uz = ptr bz oz ∧ AtV v (fi + ((2 * rt) + 1)) bz oz), (fun _ _ => True)]) [21, 23] [(dk.toList.map u16v), ((dk.setIfInBounds (fi + rt) dk[(fi + ((2 * rt) + 1))]!).toList.map u16v), (((dk.setIfInBounds (fi + rt) dk[(fi + ((2 * rt) + 1))]!).setIfInBounds (fi + ((2 * rt) + 1)) dk[(fi + rt)]!).toList.map u16v)] mixed (by kernel_rfl) (by kernel_rfl) (by kernel_rfl) (by kernel_rfl) hN27 hO28 (StL.get (StL.eq (StL.eq (StL.eq (StL.eq (StL.eq (StL.eq (StL.eq (StL.eq (StL.eq (StL.eq (StL.eq (StL.eq (StL.at (StL.eq (StL.eq (StL.eq (StL.eq (StL.eq (StL.at (StL.eq (StL.at (StL.cons (fun _ _ _ _ h => h) (StL.at (StL.cons (fun _ _ _ _ h => h) (StL.nil _)))))))))))))))))))))))))) (ObRs.get (ObRs.cons ?_ (ObRs.cons ?_ (ObRs.cons ?_ (ObRs.cons ?_ (ObRs.cons ?_ (ObRs.cons ?_ (ObRs.cons ?_ (ObRs.cons ?_ (ObRs.cons ?_ (ObRs.cons ?_ (ObRs.cons ?_ (ObRs.cons ?_ (ObRs.cons ?_ (ObRs.cons ?_ (ObRs.cons ?_ (ObRs.cons ?_ (ObRs.cons ?_ (ObRs.cons ?_ (ObRs.cons ?_ (ObRs.cons ?_ (ObRs.cons ?_ (ObRs.pass rfl (ObRs.cons ?_ (ObRs.pass rfl (ObRs.nil)))))))))))))))))))))))))) (ObWs.get (ObWs.cons ?_ (ObWs.cons ?_ (ObWs.nil)))) ?_
    ·
     intro aA wA cA hNA hRA hckA hOA hbsA hdpA
     have qA_0 := (hbsA 0 rfl).trans (sl_base hN27 rfl s27_0)
     clear hbsA hdpA
     refine op_move (ev_base hNA rfl qA_0) ?_
     exact obR_end rfl rfl (grown_refl _ _)
    ·
     intro aA wA cA hNA hRA hckA hOA hbsA hdpA
     have qA_3 := (hbsA 3 rfl).trans (sl_base hN27 rfl s27_3)
     clear hbsA hdpA
     refine op_move (ev_base hNA rfl qA_3) ?_
     exact obR_end rfl rfl (grown_refl _ _)
    ·
     intro aA wA cA hNA hRA hckA hOA hbsA hdpA
     have qA_8 := (hbsA 8 rfl).trans (sl_base hN27 rfl s27_8)
     clear hbsA hdpA
     refine op_move (ev_base hNA rfl qA_8) ?_
     exact obR_end rfl rfl (grown_refl _ _)
    ·
     intro aA wA cA hNA hRA hckA hOA hbsA hdpA
     have qA_54 : Sl aA 54 (Value.int .i64 ((fi : Nat) : Int)) := hdpA 1 _ 54 (by kernel_rfl) rfl rfl
     have qA_55 : Sl aA 55 (Value.int .i64 ((rt : Nat) : Int)) := hdpA 2 _ 55 (by kernel_rfl) rfl rfl
     clear hbsA hdpA
     refine op_add (ev_base hNA rfl qA_54) (ev_base hNA rfl qA_55) (add64 (by omega)) ?_
     exact obR_end rfl rfl (grown_refl _ _)
    ·
     intro aA wA cA hNA hRA hckA hOA hbsA hdpA
     have qA_0 := (hbsA 0 rfl).trans (sl_base hN27 rfl s27_0)
     clear hbsA hdpA
     refine op_move (ev_base hNA rfl qA_0) ?_
     exact obR_end rfl rfl (grown_refl _ _)
    ·
     intro aA wA cA hNA hRA hckA hOA hbsA hdpA
     have qA_3 := (hbsA 3 rfl).trans (sl_base hN27 rfl s27_3)
     clear hbsA hdpA
     refine op_move (ev_base hNA rfl qA_3) ?_
     exact obR_end rfl rfl (grown_refl _ _)
    ·
     intro aA wA cA hNA hRA hckA hOA hbsA hdpA
     have qA_9 := (hbsA 9 rfl).trans (sl_hit hN27 rfl)
     clear hbsA hdpA
     refine op_move (ev_base hNA rfl qA_9) ?_
     exact obR_end rfl rfl (grown_refl _ _)
    ·
     intro aA wA cA hNA hRA hckA hOA hbsA hdpA
     have qA_58 : Sl aA 58 (Value.int .i64 ((fi : Nat) : Int)) := hdpA 5 _ 58 (by kernel_rfl) rfl rfl
     have qA_59 : Sl aA 59 (Value.int .i64 ((2 * ((rt : Nat) : Int)) + 1)) := hdpA 6 _ 59 (by kernel_rfl) rfl rfl
     clear hbsA hdpA
     refine op_add (ev_base hNA rfl qA_58) (ev_base hNA rfl qA_59) (add64 (by omega)) ?_
     exact obR_end rfl rfl (grown_refl _ _)
    ·
     intro aA wA cA hNA hRA hckA hOA hbsA hdpA
     have qA_0 := (hbsA 0 rfl).trans (sl_base hN27 rfl s27_0)
     clear hbsA hdpA
     refine op_move (ev_base hNA rfl qA_0) ?_
     exact obR_end rfl rfl (grown_refl _ _)
    ·
     intro aA wA cA hNA hRA hckA hOA hbsA hdpA
     have qA_3 := (hbsA 3 rfl).trans (sl_base hN27 rfl s27_3)
     clear hbsA hdpA
     refine op_move (ev_base hNA rfl qA_3) ?_
     exact obR_end rfl rfl (grown_refl _ _)
    ·
     intro aA wA cA hNA hRA hckA hOA hbsA hdpA
     have qA_9 := (hbsA 9 rfl).trans (sl_hit hN27 rfl)
     clear hbsA hdpA
     refine op_move (ev_base hNA rfl qA_9) ?_
     exact obR_end rfl rfl (grown_refl _ _)
    ·
     intro aA wA cA hNA hRA hckA hOA hbsA hdpA
     have qA_62 : Sl aA 62 (Value.int .i64 ((fi : Nat) : Int)) := hdpA 9 _ 62 (by kernel_rfl) rfl rfl
     have qA_63 : Sl aA 63 (Value.int .i64 ((2 * ((rt : Nat) : Int)) + 1)) := hdpA 10 _ 63 (by kernel_rfl) rfl rfl
     clear hbsA hdpA
     refine op_add (ev_base hNA rfl qA_62) (ev_base hNA rfl qA_63) (add64 (by omega)) ?_
     exact obR_end rfl rfl (grown_refl _ _)
    ·
     intro aA wA cA hNA hRA hckA hOA hbsA hdpA
     have qA_61 : Sl aA 61 v := hdpA 8 _ 61 (by kernel_rfl) rfl rfl
     have qA_64 : Sl aA 64 (Value.int .i64 (((fi : Nat) : Int) + ((2 * ((rt : Nat) : Int)) + 1))) := hdpA 11 _ 64 (by kernel_rfl) rfl rfl
     clear hbsA hdpA
     refine op_index_own (i := (fi + ((2 * rt) + 1))) slt22 (ev_base hNA rfl qA_61) hOA (ev_base hNA rfl qA_64) (by omega) (by omega) ?_
     intro b_ o_ _ hA_
     exact obR_end rfl ⟨b_, o_, rfl, by simpa using hA_⟩ (grown_refl _ _)
    ·
     intro aA wA cA hNA hRA hckA hOA hbsA hdpA
     obtain ⟨bA_65, oA_65, qA_65, hAA_65⟩ := hdpA 12 _ 65 (by kernel_rfl) rfl rfl
     clear hbsA hdpA
     obtain rfl : cA = 0 := Nat.le_zero.1 (hckA 0 21 rfl (by kernel_rfl))
     have hOA : Own wA base 35 1 v n (dk.toList.map u16v) := hOA
     refine op_load1 (v := (Value.int .u16 (dk[(fi + ((2 * rt) + 1))]!.toNat : Int))) one35 (ev_base hNA rfl qA_65) (by have := hOA.cellAt hAA_65 0 _ (el_at (i := (fi + ((2 * rt) + 1))) (by first | omega | (simp only [Array.size_setIfInBounds, swp_sz, siftDown_size]; omega))); simpa using this) ?_
     exact obR_end rfl rfl (grown_refl _ _)
    ·
     intro aA wA cA hNA hRA hckA hOA hbsA hdpA
     have qA_0 := (hbsA 0 rfl).trans (sl_base hN27 rfl s27_0)
     clear hbsA hdpA
     refine op_move (ev_base hNA rfl qA_0) ?_
     exact obR_end rfl rfl (grown_refl _ _)
    ·
     intro aA wA cA hNA hRA hckA hOA hbsA hdpA
     have qA_3 := (hbsA 3 rfl).trans (sl_base hN27 rfl s27_3)
     clear hbsA hdpA
     refine op_move (ev_base hNA rfl qA_3) ?_
     exact obR_end rfl rfl (grown_refl _ _)
    ·
     intro aA wA cA hNA hRA hckA hOA hbsA hdpA
     have qA_8 := (hbsA 8 rfl).trans (sl_base hN27 rfl s27_8)
     clear hbsA hdpA
     refine op_move (ev_base hNA rfl qA_8) ?_
     exact obR_end rfl rfl (grown_refl _ _)
    ·
     intro aA wA cA hNA hRA hckA hOA hbsA hdpA
     have qA_68 : Sl aA 68 (Value.int .i64 ((fi : Nat) : Int)) := hdpA 15 _ 68 (by kernel_rfl) rfl rfl
     have qA_69 : Sl aA 69 (Value.int .i64 ((rt : Nat) : Int)) := hdpA 16 _ 69 (by kernel_rfl) rfl rfl
     clear hbsA hdpA
     refine op_add (ev_base hNA rfl qA_68) (ev_base hNA rfl qA_69) (add64 (by omega)) ?_
     exact obR_end rfl rfl (grown_refl _ _)
    ·
     intro aA wA cA hNA hRA hckA hOA hbsA hdpA
     have qA_67 : Sl aA 67 v := hdpA 14 _ 67 (by kernel_rfl) rfl rfl
     have qA_70 : Sl aA 70 (Value.int .i64 (((fi : Nat) : Int) + ((rt : Nat) : Int))) := hdpA 17 _ 70 (by kernel_rfl) rfl rfl
     clear hbsA hdpA
     refine op_index_own (i := (fi + rt)) slt22 (ev_base hNA rfl qA_67) hOA (ev_base hNA rfl qA_70) (by omega) (by omega) ?_
     intro b_ o_ _ hA_
     exact obR_end rfl ⟨b_, o_, rfl, by simpa using hA_⟩ (grown_refl _ _)
    ·
     intro aA wA cA hNA hRA hckA hOA hbsA hdpA
     obtain ⟨bA_71, oA_71, qA_71, hAA_71⟩ := hdpA 18 _ 71 (by kernel_rfl) rfl rfl
     clear hbsA hdpA
     obtain rfl : cA = 0 := Nat.le_zero.1 (hckA 0 21 rfl (by kernel_rfl))
     have hOA : Own wA base 35 1 v n (dk.toList.map u16v) := hOA
     refine op_load1 (v := (Value.int .u16 (dk[(fi + rt)]!.toNat : Int))) one35 (ev_base hNA rfl qA_71) (by have := hOA.cellAt hAA_71 0 _ (el_at (i := (fi + rt)) (by first | omega | (simp only [Array.size_setIfInBounds, swp_sz, siftDown_size]; omega))); simpa using this) ?_
     exact obR_end rfl rfl (grown_refl _ _)
    ·
     intro aA wA cA hNA hRA hckA hOA hbsA hdpA
     have qA_53 : Sl aA 53 v := hdpA 0 _ 53 (by kernel_rfl) rfl rfl
     have qA_56 : Sl aA 56 (Value.int .i64 (((fi : Nat) : Int) + ((rt : Nat) : Int))) := hdpA 3 _ 56 (by kernel_rfl) rfl rfl
     clear hbsA hdpA
     refine op_index_own (i := (fi + rt)) slt22 (ev_base hNA rfl qA_53) hOA (ev_base hNA rfl qA_56) (by omega) (by omega) ?_
     intro b_ o_ _ hA_
     exact obR_end rfl ⟨b_, o_, rfl, by simpa using hA_⟩ (grown_refl _ _)
    ·
     intro aA wA cA hNA hRA hckA hOA hbsA hdpA
     have qA_57 : Sl aA 57 v := hdpA 4 _ 57 (by kernel_rfl) rfl rfl
     have qA_60 : Sl aA 60 (Value.int .i64 (((fi : Nat) : Int) + ((2 * ((rt : Nat) : Int)) + 1))) := hdpA 7 _ 60 (by kernel_rfl) rfl rfl
     clear hbsA hdpA
     refine op_index_own (i := (fi + ((2 * rt) + 1))) slt22 (ev_base hNA rfl qA_57) hOA (ev_base hNA rfl qA_60) (by omega) (by omega) ?_
     intro b_ o_ _ hA_
     exact obR_end rfl ⟨b_, o_, rfl, by simpa using hA_⟩ (grown_refl _ _)
    ·
     intro o_ ho_; obtain rfl := Option.some.inj ho_; intro aA wA hNA hRA hbsA hdpA hOA
     obtain ⟨bA_73, oA_73, qA_73, hAA_73⟩ := hdpA 20 _ 73 (by kernel_rfl) rfl rfl
     have qA_66 : Sl aA 66 (Value.int .u16 (dk[(fi + ((2 * rt) + 1))]!.toNat : Int)) := hdpA 13 _ 66 (by kernel_rfl) rfl rfl
     clear hbsA hdpA
     have hOA : Own wA base 35 1 v n (dk.toList.map u16v) := hOA
     refine op_store_own (vs := [(Value.int .u16 (dk[(fi + ((2 * rt) + 1))]!.toNat : Int))]) size35 (ev_base hNA rfl qA_73) (ev_base hNA rfl qA_66) rfl rfl rfl hOA hAA_73 (by have := hOA.1; simp at this ⊢; omega) ?_
     intro w_ hO_ E_
     exact obW_end rfl (hO_.cast rfl (set_arr (by first | omega | (simp only [Array.size_setIfInBounds, swp_sz, siftDown_size]; omega)))) E_
    ·
     intro o_ ho_; obtain rfl := Option.some.inj ho_; intro aA wA hNA hRA hbsA hdpA hOA
     obtain ⟨bA_74, oA_74, qA_74, hAA_74⟩ := hdpA 22 _ 74 (by kernel_rfl) rfl rfl
     have qA_72 : Sl aA 72 (Value.int .u16 (dk[(fi + rt)]!.toNat : Int)) := hdpA 19 _ 72 (by kernel_rfl) rfl rfl
     clear hbsA hdpA
     have hOA : Own wA base 35 1 v n ((dk.setIfInBounds (fi + rt) dk[(fi + ((2 * rt) + 1))]!).toList.map u16v) := hOA
     refine op_store_own (vs := [(Value.int .u16 (dk[(fi + rt)]!.toNat : Int))]) size35 (ev_base hNA rfl qA_74) (ev_base hNA rfl qA_72) rfl rfl rfl hOA hAA_74 (by have := hOA.1; simp at this ⊢; omega) ?_
     intro w_ hO_ E_
     exact obW_end rfl (hO_.cast rfl (set_arr (by first | omega | (simp only [Array.size_setIfInBounds, swp_sz, siftDown_size]; omega)))) E_
    ·
     intro a77 w77 hN77 hd77 hbs77 hph77 hO77 E77
     have hd77 := hd77.trans hd27
     have s77_0 := (hbs77 0 rfl).trans (sl_base hN27 rfl s27_0)
     have s77_2 := (hbs77 2 rfl).trans (sl_base hN27 rfl s27_2)
     have s77_3 := (hbs77 3 rfl).trans (sl_base hN27 rfl s27_3)
     have s77_8 := (hbs77 8 rfl).trans (sl_base hN27 rfl s27_8)
     have s77_9 := (hbs77 9 rfl).trans (sl_hit hN27 rfl)
     clear hbs77 hph77
     have hO77 : Own w77 base 35 1 v n (((dk.setIfInBounds (fi + rt) dk[(fi + ((2 * rt) + 1))]!).setIfInBounds (fi + ((2 * rt) + 1)) dk[(fi + rt)]!).toList.map u16v) := hO77
     have z_w77 := E77.size
     have hb := grow_stepX hb E77 rfl
     refine hK76 _ _ ?_
     refine one_reg ?_
     refine op_move (ev_base hN77 rfl s77_9) ?_
     refine op_assign (ev_hit hN77 rfl) ?_
     refine reg_nil ?_
     refine blk_normal ?_
     -- round 16F 20F 52F
     have hch : childS hi fi rt dk = 2 * rt + 1 := childS_f (.inl (by omega))
     exact loop_next _ hN77 hd77 ⟨(2 * rt + 1), _, rfl, (sl_base hN77 rfl s77_0), (sl_base hN77 rfl s77_2), (sl_base hN77 rfl s77_3), (sl_hit hN77 rfl).trans (congrArg (Value.int .i64) (by omega)), (by first | assumption | (simp only [Array.size_setIfInBounds, swp_sz, siftDown_size]; assumption)), (by omega), (hs.trans ((siftDown_go (by omega) (by rw [hch]; simpa [Nat.add_assoc] using c52)).trans (by rw [hch]; rfl))), hb, (by omega), hO77⟩ (by omega)

end Go.Proofs.Ytpmnljffdofkeaa
