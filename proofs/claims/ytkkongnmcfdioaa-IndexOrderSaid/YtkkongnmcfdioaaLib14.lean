/- Small laws for walks, the fourteenth part: a region whose order is open up to an operation behind which each one waits for all ahead of it. -/
import Derived.Test.YtkkongnmcfdioaaLib13
namespace Go.Gx
open Go.RowKit
/-- From operation m on each waits for all that stand ahead of it. -/
def tailB (ol : List Oper) (m : Nat) : Bool := Nat.blt m ol.length && ((List.range ol.length).all fun i => Nat.blt i m || (List.range i).all fun j => depB ol i j)
section
variable {P : Program} {ol : List Oper} {Q : Exit → Act → World → Prop} {Φ : Nat → Value → World → Prop} {a0 : Act} {N : Nat}
theorem wpOp_list {i : Nat} {o : Oper} {ops : Array Oper} {rest : List Oper} {a : Act} {w : World} (hi : ops[i]? = some o) (h : wpList P ops Q (o :: rest) a w) : wpOp P ops Q i (wpList P ops Q rest) a w := by
  unfold wpOp
  simp only [hi]
  exact h
/-- What is told of the operations that have come up. -/
structure RTl (ol : List Oper) (Φ : Nat → Value → World → Prop) (m : Nat) (a0 : Act) (N : Nat) (w0 : World) (listed : Array Bool) (a : Act) (w : World) : Prop where
  size : a.tmps.size = N
  defers : a.defers = a0.defers
  base : ∀ t, (∀ j o, ol[j]? = some o → listed.getD j true = true → o.dst ≠ some t) → a.tmps.getD t undef = a0.tmps.getD t undef
  phi : ∀ j o d, ol[j]? = some o → listed.getD j true = true → o.dst = some d → Φ j (a.tmps.getD d undef) w
  closed : ∀ j o, ol[j]? = some o → listed.getD j true = true → ∀ e ∈ o.after, Region.binds .any e = true → listed.getD e.on false = true
  lsize : listed.size = ol.length
  low : ∀ j, j < ol.length → listed.getD j true = true → j < m
  rel : w0.grownBy w none
theorem seq_tail {m : Nat} (hlex : lexB' ol = true) (ht : tailB ol m = true) : ∀ (fuel k : Nat) (listed : Array Bool) (a : Act) (w : World), m ≤ k → k ≤ ol.length → listed.size = ol.length → (∀ j, j < ol.length → (listed.getD j true = true ↔ j < k)) → ol.length - k ≤ fuel →
    wpList P ol.toArray Q (ol.drop k) a w → wpAny P .any ol.toArray Q fuel listed a w := by
  simp only [tailB, Bool.and_eq_true] at ht
  obtain ⟨ht0, ht1⟩ := ht
  have hdone : ∀ (k : Nat) (listed : Array Bool), k = ol.length → listed.size = ol.length → (∀ j, j < ol.length → (listed.getD j true = true ↔ j < k)) → Region.ready .any ol.toArray listed = [] := by
    intro k listed hk hs hl
    rw [List.eq_nil_iff_forall_not_mem]
    intro i hi
    obtain ⟨h1, o, ho, _⟩ := mem_ready.1 hi
    have hlt : i < ol.length := by simpa using (Array.getElem?_eq_some_iff.1 ho).1
    have := (hl i hlt).2 (by omega)
    rw [h1] at this; cases this
  intro fuel
  induction fuel with
  | zero =>
    intro k listed a w hm hk hs hl hf h
    have hk' : k = ol.length := by omega
    refine ⟨hdone k listed hk' hs hl, ?_⟩
    rw [hk', List.drop_length] at h
    exact h
  | succ fuel ih =>
    intro k listed a w hm hk hs hl hf h
    refine ⟨fun hr => ?_, fun i hi => ?_⟩
    · rcases Nat.lt_or_ge k ol.length with hlt | hge
      · exfalso
        have hmem : k ∈ Region.ready .any ol.toArray listed := by
          rw [mem_ready]
          refine ⟨by have := hl k hlt; cases hq : listed.getD k true <;> simp_all, ol[k], by simp [hlt], fun e he hb => ?_⟩
          have h1 := List.all_eq_true.1 hlex k (by simp [hlt])
          simp only [List.getElem?_eq_getElem hlt, Array.all_eq_true_iff_forall_mem, Bool.or_eq_true, Bool.not_eq_true', Nat.blt_eq] at h1
          have h2 := (h1 e he).resolve_left (by simp [hb])
          exact getD_true_lt ((hl e.on (by omega)).2 h2) (by omega)
        rw [hr] at hmem; cases hmem
      · have hk' : k = ol.length := by omega
        rw [hk', List.drop_length] at h
        exact h
    · obtain ⟨hun, o, ho, hwait⟩ := mem_ready.1 hi
      have ho' : ol[i]? = some o := by simpa using ho
      have hlt : i < ol.length := (List.getElem?_eq_some_iff.1 ho').1
      have hki : ¬ i < k := fun hh => by have := (hl i hlt).2 hh; rw [hun] at this; cases this
      have hik : i = k := by
        rcases Nat.lt_or_ge k i with h2 | h2
        · exfalso
          have h3 := List.all_eq_true.1 ht1 i (by simp [hlt])
          have h4 : Nat.blt i m = false := by rw [← Bool.not_eq_true, Nat.blt_eq]; omega
          rw [h4, Bool.false_or] at h3
          have h5 := List.all_eq_true.1 h3 k (by simp [h2])
          obtain ⟨e, he, h6, h7⟩ := depB_spec ho' h5
          have h8 := getD_of_false (hwait e he h7)
          rw [h6] at h8
          have := (hl k (by omega)).1 h8
          omega
        · omega
      subst hik
      have hd : ol.drop i = o :: ol.drop (i + 1) := by
        have h9 := List.drop_eq_getElem_cons hlt
        have : ol[i] = o := by rw [List.getElem?_eq_getElem hlt] at ho'; exact Option.some.inj ho'
        rw [h9, this]
      rw [hd] at h
      refine wpOp_mono (fun a' w' h' => ?_) (wpOp_list (by simpa using ho') h)
      refine ih (i + 1) _ a' w' (by omega) (by omega) (by simp [hs]) (fun j hj => ?_) (by omega) h'
      by_cases hji : j = i
      · subst hji
        simp [Array.getD_eq_getD_getElem?, hs, hlt]
      · rw [getD_set_ne true (Ne.symm hji), hl j hj]; omega
theorem region_tail_steps {m : Nat} (hlex : lexB' ol = true) (hdn : dstNB ol N = true) (hdst : dstsB ol = true) (htl : tailB ol m = true) (w0 : World)
    (hΦ : ∀ j u w1 w2, w1.grownBy w2 none → Φ j u w1 → Φ j u w2)
    (obN : ∀ i o, i < m → ol[i]? = some o → ObN P ol Φ a0 N w0 (fun w1 w2 => w1.grownBy w2 none) i o)
    (fin : ∀ a w (listed : Array Bool), (∀ j, j < m → listed.getD j true = true) → RTl ol Φ m a0 N w0 listed a w → wpList P ol.toArray Q (ol.drop m) (putsL a []) w) :
    ∀ (fuel : Nat) (listed : Array Bool) (a : Act) (w : World), RTl ol Φ m a0 N w0 listed a w → (List.range ol.length).countP (fun i => !listed.getD i true) ≤ fuel → wpAny P .any ol.toArray Q fuel listed a w := by
  have htl' := htl
  simp only [tailB, Bool.and_eq_true] at htl'
  obtain ⟨ht0, ht1⟩ := htl'
  have ht0 : m < ol.length := by rwa [Nat.blt_eq] at ht0
  have nodone : ∀ (listed : Array Bool) (a : Act) (w : World), RTl ol Φ m a0 N w0 listed a w → Region.ready .any ol.toArray listed ≠ [] := by
    intro listed a w I hr
    have hall : ∀ i, i < ol.length → listed.getD i true = true := by
      intro i
      induction i using Nat.strongRecOn with
      | _ i ih =>
        intro hi
        by_cases hq : listed.getD i true = true
        · exact hq
        · exfalso
          have hm : i ∈ Region.ready .any ol.toArray listed := by
            rw [mem_ready]
            refine ⟨by simpa using hq, ol[i], by simp [hi], fun e he hb => ?_⟩
            have h1 := List.all_eq_true.1 hlex i (by simp [hi])
            simp only [List.getElem?_eq_getElem hi, Array.all_eq_true_iff_forall_mem, Bool.or_eq_true, Bool.not_eq_true', Nat.blt_eq] at h1
            have h2 := (h1 e he).resolve_left (by simp [hb])
            exact getD_true_lt (ih e.on h2 (by omega)) (by rw [I.lsize]; omega)
          rw [hr] at hm
          cases hm
    have := I.low m ht0 (hall m ht0)
    omega
  intro fuel
  induction fuel with
  | zero =>
    intro listed a w I hcnt
    exfalso
    refine nodone listed a w I ?_
    rw [List.eq_nil_iff_forall_not_mem]
    intro i hi
    obtain ⟨h1, o, ho, _⟩ := mem_ready.1 hi
    have hlt : i < ol.length := by simpa using (Array.getElem?_eq_some_iff.1 ho).1
    have hz : (List.range ol.length).countP (fun i => !listed.getD i true) = 0 := by omega
    rw [List.countP_eq_zero] at hz
    exact hz i (by simp [hlt]) (by simp [h1])
  | succ fuel ih =>
    intro listed a w I hcnt
    by_cases hfull : ∀ j, j < m → listed.getD j true = true
    · have h := fin a w listed hfull I
      refine seq_tail hlex htl (fuel + 1) m listed a w (Nat.le_refl _) (by omega) I.lsize (fun j hj => ⟨I.low j hj, hfull j⟩) ?_ h
      have : (List.range ol.length).countP (fun i => !listed.getD i true) = ol.length - m := by
        have h1 : ∀ n, n ≤ ol.length → (List.range n).countP (fun i => !listed.getD i true) = n - m := by
          intro n
          induction n with
          | zero => intro _; simp
          | succ n ihn =>
            intro hn
            rw [List.range_succ, List.countP_append, ihn (by omega)]
            by_cases hnm : n < m
            · rw [List.countP_cons, List.countP_nil, hfull n hnm]; simp; omega
            · have : listed.getD n true = false := by
                rcases hq : listed.getD n true with _ | _
                · rfl
                · have := I.low n (by omega) hq; omega
              rw [List.countP_cons, List.countP_nil, this]; simp; omega
        exact h1 _ (Nat.le_refl _)
      omega
    refine ⟨fun hr => absurd hr (nodone listed a w I), fun i hi => ?_⟩
    obtain ⟨hun, o, ho, hwait⟩ := mem_ready.1 hi
    have ho' : ol[i]? = some o := by simpa using ho
    have hlt : i < ol.length := (List.getElem?_eq_some_iff.1 ho').1
    have him : i < m := by
      rcases Nat.lt_or_ge i m with h | h
      · exact h
      · exfalso
        refine hfull fun j hj => ?_
        have h3 := List.all_eq_true.1 ht1 i (by simp [hlt])
        have h4 : Nat.blt i m = false := by rw [← Bool.not_eq_true, Nat.blt_eq]; omega
        rw [h4, Bool.false_or] at h3
        have h5 := List.all_eq_true.1 h3 j (by simp; omega)
        obtain ⟨e, he, h6, h7⟩ := depB_spec ho' h5
        have h8 := getD_of_false (hwait e he h7)
        rwa [h6] at h8
    have hls : i < listed.size := by rw [I.lsize]; exact hlt
    have hcnt' : (List.range ol.length).countP (fun j => !(listed.setIfInBounds i true).getD j true) ≤ fuel := by
      have : (List.range ol.length).countP (fun j => !(listed.setIfInBounds i true).getD j true) < (List.range ol.length).countP (fun j => !listed.getD j true) := by
        refine countP_lt _ _ (fun y hy => ?_) _ i (by simp [hlt]) (by simp [hun]) (by simp [Array.getD_eq_getD_getElem?, hls])
        by_cases hiy : i = y
        · subst hiy; simp [Array.getD_eq_getD_getElem?, hls] at hy
        · rwa [getD_set_ne true hiy] at hy
      omega
    have hbase : ∀ t, safeB ol i t = true → a.tmps.getD t undef = a0.tmps.getD t undef := by
      intro t ht
      refine I.base t fun j oj hj hlj hd => ?_
      have h1 := List.all_eq_true.1 ht oj (List.mem_of_getElem? hj)
      simp only [Bool.or_eq_true, bne_iff_ne, ne_eq, Array.any_eq_true, Bool.and_eq_true, beq_iff_eq] at h1
      rcases h1 with h1 | ⟨q, hq, h1, h2⟩
      · exact h1 hd
      · have := getD_of_false (I.closed j oj hj hlj _ (Array.getElem_mem hq) h2)
        rw [h1, hun] at this
        cases this
    have hdep : ∀ j oj d, depB ol i j = true → ol[j]? = some oj → oj.dst = some d → Φ j (a.tmps.getD d undef) w := by
      intro j oj d hj hoj hd
      obtain ⟨e, he, h1, h2⟩ := depB_spec ho' hj
      exact I.phi j oj d hoj (getD_of_false (by rw [← h1]; exact hwait e he h2)) hd
    have hset : ∀ j, j ≠ i → (listed.setIfInBounds i true).getD j true = listed.getD j true := fun j hj => getD_set_ne true (Ne.symm hj)
    have hseti : (listed.setIfInBounds i true).getD i true = true := by simp [Array.getD_eq_getD_getElem?, hls]
    have hclosed : ∀ j oj, ol[j]? = some oj → (listed.setIfInBounds i true).getD j true = true → ∀ e ∈ oj.after, Region.binds .any e = true → (listed.setIfInBounds i true).getD e.on false = true := by
      intro j oj hoj hlj e he hb
      refine getD_set_true ?_
      by_cases hji : j = i
      · subst hji
        rw [ho'] at hoj; cases hoj
        exact hwait e he hb
      · rw [hset j hji] at hlj
        exact I.closed j oj hoj hlj e he hb
    have hne : ∀ j oj d, ol[j]? = some oj → j ≠ i → o.dst = some d → oj.dst ≠ some d := by
      intro j oj d hoj hji hd hd'
      have hj : j < ol.length := (List.getElem?_eq_some_iff.1 hoj).1
      have h1 := List.all_eq_true.1 (List.all_eq_true.1 hdst i (by simp [hlt])) j (by simp [hj])
      simp only [ho', hoj, Bool.or_eq_true, beq_iff_eq, bne_iff_ne, ne_eq] at h1
      rcases h1 with h1 | h1 | h1
      · exact hji h1.symm
      · exact h1 (by rw [hd, hd'])
      · rw [hd] at h1; cases h1
    refine wp_one (by simpa using ho') (obN i o him ho' a w I.size I.rel hbase hdep) fun a' w' h => ?_
    obtain ⟨⟨d, v, hd, rfl, hv⟩, hg⟩ := h
    have hdN : d < a.tmps.size := by
      have h1 := List.all_eq_true.1 hdn o (List.mem_of_getElem? ho')
      simp only [hd, Nat.blt_eq] at h1
      rw [I.size]; exact h1
    refine ih _ _ w' ⟨by rw [putsL_size, I.size], by rw [putsL_defers, I.defers], fun t ht => ?_, fun j oj d' hoj hlj hd' => ?_, hclosed, by simp [I.lsize], fun j hj hlj => ?_, grown_trans I.rel hg⟩ hcnt'
    · have hdt : d ≠ t := fun e => ht i o ho' hseti (by rw [hd, e])
      rw [get_put_ne hdt]
      refine I.base t fun j oj hoj hlj => ?_
      by_cases hji : j = i
      · subst hji; rw [hun] at hlj; cases hlj
      · exact ht j oj hoj (by rw [hset j hji]; exact hlj)
    · by_cases hji : j = i
      · subst hji
        rw [ho'] at hoj; cases hoj
        rw [hd] at hd'; cases hd'
        rw [get_put_eq hdN]
        exact hv
      · rw [hset j hji] at hlj
        have : d ≠ d' := fun e => hne j oj d hoj hji hd (by rw [hd', e])
        rw [get_put_ne this]
        exact hΦ j _ w w' hg (I.phi j oj d' hoj hlj hd')
    · by_cases hji : j = i
      · omega
      · rw [hset j hji] at hlj
        exact I.low j hj hlj
/-- A region whose order is open up to operation m, nothing of which up to there writes what was there. -/
theorem reg_tail {id : Nat} (m : Nat) (hm : P.follows .mixedOrders = true) (hlex : lexB' ol = true) (hdn : dstNB ol N = true) (hdst : dstsB ol = true) (htl : tailB ol m = true) {l : List (Nat × Value)} {w : World} (hN : a0.tmps.size = N)
    (hΦ : ∀ j u w1 w2, w1.grownBy w2 none → Φ j u w1 → Φ j u w2)
    (obN : ∀ i o, i < m → ol[i]? = some o → ObN P ol Φ (putsL a0 l) N w (fun w1 w2 => w1.grownBy w2 none) i o)
    (fin : ∀ a' w', a'.tmps.size = N → a'.defers = a0.defers → (∀ t, ((ol.take m).all fun o => o.dst != some t) = true → a'.tmps.getD t undef = (putsL a0 l).tmps.getD t undef) →
      (∀ j oj d, Nat.blt j m = true → ol[j]? = some oj → oj.dst = some d → Φ j (a'.tmps.getD d undef) w') → w.grownBy w' none → wpList P ol.toArray Q (ol.drop m) (putsL a' []) w') :
    (Code.region id ol.toArray true).wp P Q (putsL a0 l) w := by
  refine wp_region_any hm ?_
  have hd : w.grownBy { w with drawn := w.drawn + 1 } none := ⟨rfl, rfl, rfl, Nat.le_refl _, fun _ _ _ => rfl⟩
  have I : RTl ol Φ m (putsL a0 l) N w (Array.replicate ol.length false) (putsL a0 l) { w with drawn := w.drawn + 1 } := by
    refine ⟨slN hN, rfl, fun _ _ => rfl, fun j o d hj hl => ?_, fun j o hj hl => ?_, by simp, fun j hj hl => ?_, hd⟩
    · have : j < ol.length := (List.getElem?_eq_some_iff.1 hj).1
      simp [Array.getD_eq_getD_getElem?, this] at hl
    · have : j < ol.length := (List.getElem?_eq_some_iff.1 hj).1
      simp [Array.getD_eq_getD_getElem?, this] at hl
    · simp [Array.getD_eq_getD_getElem?, hj] at hl
  have := region_tail_steps (P := P) (Q := Q) hlex hdn hdst htl w hΦ obN (fun a' w' listed hfull J => fin a' w' J.size (by rw [J.defers, putsL_defers]) (fun t ht => J.base t fun j o hj hlj hd => by
      have hjm := J.low j (List.getElem?_eq_some_iff.1 hj).1 hlj
      have := List.all_eq_true.1 ht o (List.mem_of_getElem? (i := j) (by rw [List.getElem?_take, if_pos hjm]; exact hj))
      simp [hd] at this) (fun j oj d hjm hj hd => J.phi j oj d hj (hfull j (by rwa [Nat.blt_eq] at hjm)) hd) J.rel) ol.length (Array.replicate ol.length false) _ _ I (Nat.le_trans (List.countP_le_length) (by simp))
  simpa using this
def ObT (P : Program) (ol : List Oper) (Φ : Nat → Value → World → Prop) (a0 : Act) (N : Nat) (w0 : World) (R : World → World → Prop) : Nat → Nat → List Oper → Prop
  | 0, _, _ => True
  | _ + 1, _, [] => True
  | k + 1, i, o :: r => ObN P ol Φ a0 N w0 R i o ∧ ObT P ol Φ a0 N w0 R k (i + 1) r
variable {w0 : World} {R : World → World → Prop}
theorem ObT.nil {i : Nat} {l : List Oper} : ObT P ol Φ a0 N w0 R 0 i l := by unfold ObT; trivial
theorem ObT.cons {k i : Nat} {o : Oper} {r : List Oper} (h : ObN P ol Φ a0 N w0 R i o) (h' : ObT P ol Φ a0 N w0 R k (i + 1) r) : ObT P ol Φ a0 N w0 R (k + 1) i (o :: r) := ⟨h, h'⟩
theorem ObT.getx : ∀ {l : List Oper} {k i : Nat}, ObT P ol Φ a0 N w0 R k i l → ∀ j o, j < k → l[j]? = some o → ObN P ol Φ a0 N w0 R (i + j) o
  | [], _, _, _, j, o, _, h => by simp at h
  | o' :: r, 0, i, h, j, o, hk, hj => by omega
  | o' :: r, k + 1, i, h, 0, o, _, hj => by simp at hj; subst hj; exact h.1
  | o' :: r, k + 1, i, h, j + 1, o, hk, hj => by
    have := ObT.getx h.2 j o (by omega) (by simpa using hj)
    rwa [show i + 1 + j = i + (j + 1) by omega] at this
theorem ObT.get {l : List Oper} {m : Nat} (h : ObT P ol Φ a0 N w0 R m 0 l) : ∀ j o, j < m → l[j]? = some o → ObN P ol Φ a0 N w0 R j o := fun j o hk hj => by
  have := ObT.getx h j o hk hj
  rwa [Nat.zero_add] at this
end
theorem one_at {cs : List Value} {k j : Nat} {v u : Value} (h : cs[k * 1 + 0]? = some v) (hu : [v][j]? = some u) : cs[k * 1 + j]? = some u := by
  rcases j with _ | j
  · simp at hu; subst hu; exact h
  · simp at hu
/-- Cells that lie at a place: the block lies from L on and below B. -/
def PtC (w : World) (L B b off : Nat) (cs : List Value) : Prop := L ≤ b ∧ b < B ∧ ∀ j u, cs[j]? = some u → w.cell? ⟨b, off + j, none⟩ = some u
section
variable {w w' : World} {row : Option Nat} {L B b off : Nat} {cs : List Value}
theorem PtC.keep (h : PtC w L B b off cs) (E : w.grownBy w' row) (hne : ∀ k, row = some k → k < L ∨ B ≤ k) : PtC w' L B b off cs := by
  obtain ⟨h0, h1, h2⟩ := h
  refine ⟨h0, h1, fun j u hu => ?_⟩
  have := h2 j u hu
  rw [World.cell?_of_block (w := w) (E.block b (World.block_lt_of_cell? w _ this) (fun e => by have := hne b e.symm; omega))]
  exact this
theorem PtC.keep0 (h : PtC w L B b off cs) (E : w.grownBy w' none) : PtC w' L B b off cs := h.keep E (by simp)
theorem PtC.keepO {base e sz n : Nat} {ws : List Value} {v : Value} (h : PtC w L B b off cs) (O : Own w base e sz v n ws) (E : w.grownBy w' v.ownBlock) (hne : B ≤ base) : PtC w' L B b off cs :=
  h.keep E fun k hk => .inr (by have := (O.lt k hk).1; omega)
end
theorem Own.cast {w : World} {base e sz n n' : Nat} {v : Value} {cs cs' : List Value} (h : Own w base e sz v n cs) (hn : n = n') (hc : cs = cs') : Own w base e sz v n' cs' := by subst hn; subst hc; exact h
theorem RdC.cast {w : World} {L B sz n n' : Nat} {v : Value} {cs cs' : List Value} (h : RdC w L B sz v n cs) (hn : n = n') (hc : cs = cs') : RdC w L B sz v n' cs' := by subst hn; subst hc; exact h
/-- What lay below B stays. -/
def Lo (B : Nat) (w1 w2 : World) : Prop := w2.os = w1.os ∧ w2.tape = w1.tape ∧ w2.output = w1.output ∧ w1.heap.size ≤ w2.heap.size ∧ ∀ k, k < w1.heap.size → k < B → w2.heap[k]? = w1.heap[k]?
theorem Lo.refl (B : Nat) (w : World) : Lo B w w := ⟨rfl, rfl, rfl, Nat.le_refl _, fun _ _ _ => rfl⟩
theorem Lo.trans {B : Nat} {w1 w2 w3 : World} (h : Lo B w1 w2) (h' : Lo B w2 w3) : Lo B w1 w3 :=
  ⟨h'.1.trans h.1, h'.2.1.trans h.2.1, h'.2.2.1.trans h.2.2.1, Nat.le_trans h.2.2.2.1 h'.2.2.2.1, fun k hk hB => (h'.2.2.2.2 k (Nat.lt_of_lt_of_le hk h.2.2.2.1) hB).trans (h.2.2.2.2 k hk hB)⟩
theorem Lo.of {B : Nat} {w1 w2 : World} {row : Option Nat} (E : w1.grownBy w2 row) (hr : ∀ k, row = some k → B ≤ k) : Lo B w1 w2 :=
  ⟨E.os, E.tape, E.output, E.size, fun k hk hB => E.block k hk (fun hh => by have := hr k hh.symm; omega)⟩
theorem Lo.grown {w1 w2 : World} (h : Lo w1.heap.size w1 w2) : w1.grownBy w2 none := ⟨h.1, h.2.1, h.2.2.1, h.2.2.2.1, fun k hk _ => h.2.2.2.2 k hk hk⟩
theorem RdC.lo {w w' : World} {B0 L B sz n : Nat} {v : Value} {cs : List Value} (h : RdC w L B sz v n cs) (E : Lo B0 w w') (hB : B ≤ B0) : RdC w' L B sz v n cs := by
  obtain ⟨h0, a, c, hv, h1, h2, h3⟩ := h
  refine ⟨h0, a, c, hv, h1, h2, ?_⟩
  rcases h3 with h3 | ⟨b, off, ha, hL, hB', hc⟩
  · exact .inl h3
  · refine .inr ⟨b, off, ha, hL, hB', fun j u hu => ?_⟩
    have := hc j u hu
    rw [World.cell?_of_block (w := w) (E.2.2.2.2 b (World.block_lt_of_cell? w _ this) (by omega))]
    exact this
theorem PtC.lo {w w' : World} {B0 L B b off : Nat} {cs : List Value} (h : PtC w L B b off cs) (E : Lo B0 w w') (hB : B ≤ B0) : PtC w' L B b off cs := by
  obtain ⟨h0, h1, h2⟩ := h
  refine ⟨h0, h1, fun j u hu => ?_⟩
  have := h2 j u hu
  rw [World.cell?_of_block (w := w) (E.2.2.2.2 b (World.block_lt_of_cell? w _ this) (by omega))]
  exact this
/-- A chain: a new variable, and a store into it. -/
def twoChain (i s d : Nat) : Chain := ⟨[i, s], fun _ => d⟩
section
variable {P : Program} {ol : List Oper} {Q : Exit → Act → World → Prop} {Φ : Nat → Value → World → Prop} {a0 : Act} {N : Nat}
theorem reg_store {id : Nat} (i s d T jv t : Nat) {zv val : Value} {zs cs : List Value} {ty1 ty2 : Nat} {p1 p2 : String} {af1 af2 : Array Edge} (hm : P.follows .mixedOrders = true) (hlex : lexB' ol = true) (hdn : dstNB ol N = true) (hdst : dstsB ol = true) (hch : (twoChain i s d).okB ol = true)
    {l : List (Nat × Value)} {w : World} (hN : a0.tmps.size = N)
    (hi : ol[i]? = some ⟨some d, .alloc T, ty1, p1, af1, none⟩) (hs : ol[s]? = some ⟨none, .store T (.tmp d) (.tmp t), ty2, p2, af2, none⟩)
    (hz : zeroT P T = some zv) (hzc : zv.cells.toList = zs) (hsz : (P.info? T).map (·.size) = some cs.length) (hlen : zs.length = cs.length) (hvc : val.cells.toList = cs) (hone : cs.all Value.oneCell' = true)
    (hjv : depB ol s jv = true) (hjd : (ol[jv]?).bind (·.dst) = some t) (hval : ∀ u w, Φ jv u w → u = val) (hΦi : ∀ u w, Φ i u w)
    (hΦ : ∀ j u w1 w2, Lo w.heap.size w1 w2 → Φ j u w1 → Φ j u w2)
    (obN : ∀ j o, ol[j]? = some o → j ≠ i → j ≠ s → ObN P ol Φ (putsL a0 l) N w (Lo w.heap.size) j o)
    (fin : ∀ a' w', a'.tmps.size = N → a'.defers = a0.defers → (∀ t, (ol.all fun o => o.dst != some t) = true → a'.tmps.getD t undef = (putsL a0 l).tmps.getD t undef) →
      (∀ j oj d, ol[j]? = some oj → oj.dst = some d → Φ j (a'.tmps.getD d undef) w') → (∃ b, a'.tmps.getD d undef = ptr b 0 ∧ w.heap.size ≤ b ∧ b < w'.heap.size ∧ Bx w' b T cs) → w.grownBy w' none → Q .normal (putsL a' []) w') :
    (Code.region id ol.toArray true).wp P Q (putsL a0 l) w := by
  have hdN : ∀ a : Act, a.tmps.size = N → d < a.tmps.size := by
    intro a ha
    have h1 := List.all_eq_true.1 hdn _ (List.mem_of_getElem? hi)
    simp only [Nat.blt_eq] at h1
    omega
  refine reg_draw (C := fun c u w' => c = 0 ∨ ∃ b, u = ptr b 0 ∧ w.heap.size ≤ b ∧ b < w'.heap.size ∧ Bx w' b T (if c = 1 then zs else cs)) (ch := twoChain i s d) (R := Lo w.heap.size) (Φ := Φ) hm hlex hdn hdst hch (Lo.refl _) (fun _ _ _ => Lo.trans) (fun _ _ h => Lo.of h (by simp)) hΦ ?_ hN (.inl rfl) ?_ ?_ ?_
  · intro c u w1 w2 E h
    rcases h with h | ⟨b, h1, h2, h3, h4⟩
    · exact .inl h
    · exact .inr ⟨b, h1, h2, Nat.lt_of_lt_of_le h3 E.size, h4.keep0 E⟩
  · intro j o hj hh
    refine obN j o hj (fun e => ?_) (fun e => ?_)
    · subst e; simp [Chain.has, twoChain] at hh
    · subst e; simp [Chain.has, twoChain] at hh
  · intro c j o hc hj a w1 hs1 hR hb hd hC
    rcases c with _ | _ | c
    · have : i = j := by simpa [twoChain] using hc
      subst this
      rw [hi] at hj; cases hj
      refine op_alloc (cs := zs) hz hzc fun w' b h1 h2 h3 E => ?_
      refine ⟨rfl, .inr ⟨d, _, rfl, rfl, hΦi _ _⟩, .inr ⟨b, ?_, ?_, h2, by simpa using h3⟩, Lo.of E (by simp)⟩
      · exact get_put_eq (hdN _ hs1)
      · exact Nat.le_trans hR.2.2.2.1 h1
    · have : s = j := by simpa [twoChain] using hc
      subst this
      rw [hs] at hj; cases hj
      rcases hC with hC | ⟨b, hu, hlo, hhi, hB⟩
      · cases hC
      · obtain ⟨oj, hoj, hojd⟩ := Option.bind_eq_some_iff.1 hjd
        have hv := hval _ _ (hd jv oj t hjv hoj hojd)
        refine op_store (b := b) (off := 0) (vs := cs) (cs := zs) (cs' := cs) hsz hu hv hvc rfl hone (by simpa using hB) (by omega) (by simp [← hlen]) fun w' hB' E => ?_
        refine ⟨rfl, .inl ⟨rfl, rfl⟩, .inr ⟨b, hu, hlo, Nat.lt_of_lt_of_le hhi E.size, by simpa using hB'⟩, Lo.of E (fun k hk => by cases hk; exact hlo)⟩
    · simp [twoChain] at hc
  · intro a' w' h1 h2 h3 h4 h5 h6
    rcases h5 with h5 | ⟨b, g1, g2, g3, g4⟩
    · simp [twoChain] at h5
    · exact fin a' w' h1 h2 h3 h4 ⟨b, g1, g2, g3, by simpa [twoChain] using g4⟩ h6.grown
/-- What each operation leaves stays so, below B. -/
def StB (B : Nat) : List (Value → World → Prop) → Prop
  | [] => True
  | φ :: L => (∀ u w1 w2, Lo B w1 w2 → φ u w1 → φ u w2) ∧ StB B L
theorem StB.get {B : Nat} : ∀ {L : List (Value → World → Prop)}, StB B L → ∀ j u w1 w2, Lo B w1 w2 → phiL L j u w1 → phiL L j u w2
  | [], _, j, _, _, _, _, _ => by simp [phiL]
  | φ :: L, h, 0, u, w1, w2, E, hp => h.1 u w1 w2 E hp
  | φ :: L, h, j + 1, u, w1, w2, E, hp => StB.get h.2 j u w1 w2 E hp
theorem StB.nil {B : Nat} : StB B [] := trivial
theorem StB.cons {B : Nat} {φ : Value → World → Prop} {L : List (Value → World → Prop)} (h : ∀ u w1 w2, Lo B w1 w2 → φ u w1 → φ u w2) (h' : StB B L) : StB B (φ :: L) := ⟨h, h'⟩
theorem StB.eq {B : Nat} {v : Value} {L : List (Value → World → Prop)} (h' : StB B L) : StB B ((fun u _ => u = v) :: L) := ⟨fun _ _ _ _ h => h, h'⟩
theorem StB.any {B : Nat} {L : List (Value → World → Prop)} (h' : StB B L) : StB B ((fun _ _ => True) :: L) := ⟨fun _ _ _ _ h => h, h'⟩
def ObS (P : Program) (ol : List Oper) (Φ : Nat → Value → World → Prop) (a0 : Act) (N : Nat) (w0 : World) (R : World → World → Prop) (i s : Nat) : Nat → List Oper → Prop
  | _, [] => True
  | j, o :: r => (j ≠ i → j ≠ s → ObN P ol Φ a0 N w0 R j o) ∧ ObS P ol Φ a0 N w0 R i s (j + 1) r
variable {w0 : World} {R : World → World → Prop} {i s : Nat}
theorem ObS.nil {j : Nat} : ObS P ol Φ a0 N w0 R i s j [] := trivial
theorem ObS.cons {j : Nat} {o : Oper} {r : List Oper} (h : ObN P ol Φ a0 N w0 R j o) (h' : ObS P ol Φ a0 N w0 R i s (j + 1) r) : ObS P ol Φ a0 N w0 R i s j (o :: r) := ⟨fun _ _ => h, h'⟩
theorem ObS.pass1 {o : Oper} {r : List Oper} (h' : ObS P ol Φ a0 N w0 R i s (i + 1) r) : ObS P ol Φ a0 N w0 R i s i (o :: r) := ⟨fun h => absurd rfl h, h'⟩
theorem ObS.pass2 {o : Oper} {r : List Oper} (h' : ObS P ol Φ a0 N w0 R i s (s + 1) r) : ObS P ol Φ a0 N w0 R i s s (o :: r) := ⟨fun _ h => absurd rfl h, h'⟩
theorem ObS.getx : ∀ {l : List Oper} {k : Nat}, ObS P ol Φ a0 N w0 R i s k l → ∀ j o, l[j]? = some o → k + j ≠ i → k + j ≠ s → ObN P ol Φ a0 N w0 R (k + j) o
  | [], _, _, j, o, h, _, _ => by simp at h
  | o' :: r, k, h, 0, o, hj, h1, h2 => by simp at hj; subst hj; exact h.1 h1 h2
  | o' :: r, k, h, j + 1, o, hj, h1, h2 => by
    have := ObS.getx h.2 j o (by simpa using hj) (by omega) (by omega)
    rwa [show k + 1 + j = k + (j + 1) by omega] at this
theorem ObS.get {l : List Oper} (h : ObS P ol Φ a0 N w0 R i s 0 l) : ∀ j o, l[j]? = some o → j ≠ i → j ≠ s → ObN P ol Φ a0 N w0 R j o := fun j o hj h1 h2 => by
  have := ObS.getx h j o hj (by omega) (by omega)
  rwa [Nat.zero_add] at this
end
theorem RdC.one {w : World} {L B sz n : Nat} {v : Value} {cs : List Value} (h : RdC w L B sz v n cs) : Value.oneCell' v = true := by
  obtain ⟨_, a, c, rfl, _⟩ := h; rfl
theorem RdC.sl {w : World} {L B sz n : Nat} {v : Value} {cs : List Value} (h : RdC w L B sz v n cs) : ∃ a n c, v = .slice a n c := by
  obtain ⟨_, a, c, rfl, _⟩ := h; exact ⟨_, _, _, rfl⟩
theorem Own.sl {w : World} {base e sz n : Nat} {v : Value} {cs : List Value} (h : Own w base e sz v n cs) : ∃ a n c, v = .slice a n c := h.rdw.sl
theorem RdC.cl {w : World} {L B sz n : Nat} {v : Value} {cs : List Value} (h : RdC w L B sz v n cs) : v.cells.toList = [v] := by
  obtain ⟨_, a, c, rfl, _⟩ := h; rfl
theorem Own.cl {w : World} {base e sz n : Nat} {v : Value} {cs : List Value} (h : Own w base e sz v n cs) : v.cells.toList = [v] := h.rdw.cl
theorem Own.one {w : World} {base e sz n : Nat} {v : Value} {cs : List Value} (h : Own w base e sz v n cs) : Value.oneCell' v = true := h.rdw.one
theorem ge_of {v v0 : Value} {B n : Nat} (hvo : v.ownBlock = v0.ownBlock ∨ ∀ k, v.ownBlock = some k → n ≤ k) (h0 : ∀ k, v0.ownBlock = some k → B ≤ k) (hB : B ≤ n) : ∀ k, v.ownBlock = some k → B ≤ k := by
  rcases hvo with h | h
  · rw [h]; exact h0
  · intro k hk; have := h k hk; omega
/-- Two lists of one's own lie in blocks of their own. -/
def DJ (v u : Value) : Prop := ∀ k, v.ownBlock = some k → u.ownBlock ≠ some k
theorem DJ.symm {v u : Value} (h : DJ v u) : DJ u v := fun k hk hg => h k hg hk
theorem DJ.step {v u u' : Value} {n : Nat} (hm : u'.ownBlock = u.ownBlock ∨ ∀ k, u'.ownBlock = some k → n ≤ k) (hl : ∀ k, v.ownBlock = some k → k < n) (h : DJ v u) : DJ v u' := by
  intro k hk hg
  rcases hm with hm | hm
  · rw [hm] at hg; exact h k hk hg
  · have h1 := hm k hg; have h2 := hl k hk; omega
theorem Own.keepD {w w' : World} {base e sz n : Nat} {v u : Value} {cs : List Value} (h : Own w base e sz v n cs) (E : w.grownBy w' u.ownBlock) (hd : DJ v u) : Own w' base e sz v n cs := by
  refine ⟨h.1, ?_⟩
  rcases h.2 with hn | ⟨g, off, cap, cur, fr, rfl, hb, hg, r⟩
  · exact .inl hn
  · refine .inr ⟨g, off, cap, cur, fr, rfl, hb, ?_, r⟩
    rw [E.block g (Array.getElem?_eq_some_iff.1 hg).1 (fun hh => hd g (by simp [Value.ownBlock]) hh.symm)]
    exact hg
theorem Own.keepT {w w' : World} {base e sz n base2 e2 sz2 n2 : Nat} {v u : Value} {cs ws : List Value} (h : Own w base e sz v n cs) (O : Own w base2 e2 sz2 u n2 ws) (E : w.grownBy w' u.ownBlock) (hne : e ≠ e2) : Own w' base e sz v n cs := by
  refine h.keepD E fun k hk hg => ?_
  rcases h.2 with ⟨rfl, _⟩ | ⟨g, off, cap, cur, fr, rfl, hb, hg1, _⟩
  · simp [Value.ownBlock] at hk
  · rcases O.2 with ⟨rfl, _⟩ | ⟨g', off', cap', cur', fr', rfl, hb', hg2, _⟩
    · simp [Value.ownBlock] at hg
    · simp [Value.ownBlock] at hk hg
      subst hk; subst hg
      rw [hg1] at hg2
      simp at hg2
      exact hne hg2.2.1
theorem RdC.keep0w {w w' : World} {L sz n : Nat} {v : Value} {cs : List Value} (h : RdC w L w.heap.size sz v n cs) (E : w.grownBy w' none) : RdC w' L w'.heap.size sz v n cs := (h.keep0 E).mono (Nat.le_refl _) E.size
section
variable {P : Program} {Q : Exit → Act → World → Prop} {a : Act} {w : World} {N : Nat} {x1 x2 x3 x4 x5 x6 x7 x8 t : Code}
theorem seq_join1 (D : Act → World → Prop) (h1 : (∀ a l w, a.tmps.size = N → a.defers = [] → D (putsL a l) w → t.wp P Q (putsL a l) w) → (Code.seq x1 t).wp P Q a w) (h2 : ∀ a w, a.tmps.size = N → a.defers = [] → D a w → t.wp P Q (putsL a []) w) : (Code.seq x1 t).wp P Q a w := h1 fun a l w hN hd h => h2 (putsL a l) w (slN hN) (by rw [putsL_defers, hd]) h
theorem seq_join2 (D : Act → World → Prop) (h1 : (∀ a l w, a.tmps.size = N → a.defers = [] → D (putsL a l) w → t.wp P Q (putsL a l) w) → (Code.seq x1 (Code.seq x2 t)).wp P Q a w) (h2 : ∀ a w, a.tmps.size = N → a.defers = [] → D a w → t.wp P Q (putsL a []) w) : (Code.seq x1 (Code.seq x2 t)).wp P Q a w := h1 fun a l w hN hd h => h2 (putsL a l) w (slN hN) (by rw [putsL_defers, hd]) h
theorem seq_join3 (D : Act → World → Prop) (h1 : (∀ a l w, a.tmps.size = N → a.defers = [] → D (putsL a l) w → t.wp P Q (putsL a l) w) → (Code.seq x1 (Code.seq x2 (Code.seq x3 t))).wp P Q a w) (h2 : ∀ a w, a.tmps.size = N → a.defers = [] → D a w → t.wp P Q (putsL a []) w) : (Code.seq x1 (Code.seq x2 (Code.seq x3 t))).wp P Q a w := h1 fun a l w hN hd h => h2 (putsL a l) w (slN hN) (by rw [putsL_defers, hd]) h
theorem seq_join4 (D : Act → World → Prop) (h1 : (∀ a l w, a.tmps.size = N → a.defers = [] → D (putsL a l) w → t.wp P Q (putsL a l) w) → (Code.seq x1 (Code.seq x2 (Code.seq x3 (Code.seq x4 t)))).wp P Q a w) (h2 : ∀ a w, a.tmps.size = N → a.defers = [] → D a w → t.wp P Q (putsL a []) w) : (Code.seq x1 (Code.seq x2 (Code.seq x3 (Code.seq x4 t)))).wp P Q a w := h1 fun a l w hN hd h => h2 (putsL a l) w (slN hN) (by rw [putsL_defers, hd]) h
theorem seq_join5 (D : Act → World → Prop) (h1 : (∀ a l w, a.tmps.size = N → a.defers = [] → D (putsL a l) w → t.wp P Q (putsL a l) w) → (Code.seq x1 (Code.seq x2 (Code.seq x3 (Code.seq x4 (Code.seq x5 t))))).wp P Q a w) (h2 : ∀ a w, a.tmps.size = N → a.defers = [] → D a w → t.wp P Q (putsL a []) w) : (Code.seq x1 (Code.seq x2 (Code.seq x3 (Code.seq x4 (Code.seq x5 t))))).wp P Q a w := h1 fun a l w hN hd h => h2 (putsL a l) w (slN hN) (by rw [putsL_defers, hd]) h
theorem seq_join6 (D : Act → World → Prop) (h1 : (∀ a l w, a.tmps.size = N → a.defers = [] → D (putsL a l) w → t.wp P Q (putsL a l) w) → (Code.seq x1 (Code.seq x2 (Code.seq x3 (Code.seq x4 (Code.seq x5 (Code.seq x6 t)))))).wp P Q a w) (h2 : ∀ a w, a.tmps.size = N → a.defers = [] → D a w → t.wp P Q (putsL a []) w) : (Code.seq x1 (Code.seq x2 (Code.seq x3 (Code.seq x4 (Code.seq x5 (Code.seq x6 t)))))).wp P Q a w := h1 fun a l w hN hd h => h2 (putsL a l) w (slN hN) (by rw [putsL_defers, hd]) h
end
end Go.Gx
