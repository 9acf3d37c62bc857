/- Small laws for walks, the thirty-third part: a region of open order with great operations that are not all in a row: each order of them is told, the light ones come at any time. -/
import Derived.Test.YtdhpalioifjfbaaB3
set_option linter.unusedVariables false
set_option linter.unusedSimpArgs false

namespace Go.Gx
open Go.RowKit
section
variable {P : Program} {ol : List Oper} {Q : Exit → Act → World → Prop} {bigs : List Nat} {φ : Nat → Value → Prop} {G : World → Prop} {a0 : Act} {N : Nat}
def PhT (bigs : List Nat) (φ : Nat → Value → Prop) (e : List (Nat × Value)) (j : Nat) (u : Value) : Prop := (bigs.contains j = true → e.lookup j = some u) ∧ (bigs.contains j = false → φ j u)
theorem PhT.mono {e : List (Nat × Value)} {i j : Nat} {v u : Value} (hij : j ≠ i) (h : PhT bigs φ e j u) : PhT bigs φ ((i, v) :: e) j u :=
  ⟨fun hb => by rw [List.lookup_cons, beq_false_of_ne hij]; exact h.1 hb, h.2⟩
structure TInv (ol : List Oper) (bigs : List Nat) (φ : Nat → Value → Prop) (a0 : Act) (N : Nat) (listed : Array Bool) (todo : List Nat) (e : List (Nat × Value)) (a : Act) : Prop where
  size : a.tmps.size = N
  defers : a.defers = a0.defers
  base : ∀ t, (∀ j o, ol[j]? = some o → listed.getD j true = true → o.dst ≠ some t) → a.tmps.getD t undef = a0.tmps.getD t undef
  phi : ∀ j o d, ol[j]? = some o → listed.getD j true = true → o.dst = some d → PhT bigs φ e j (a.tmps.getD d undef)
  closed : ∀ j o, ol[j]? = some o → listed.getD j true = true → ∀ x ∈ o.after, Region.binds .any x = true → listed.getD x.on false = true
  lsize : listed.size = ol.length
  todos : ∀ i, i ∈ todo ↔ i ∈ bigs ∧ listed.getD i true = false
  nodup : List.Nodup todo
def KI (P : Program) (ol : List Oper) (bigs : List Nat) (φ : Nat → Value → Prop) (G : World → Prop) (a0 : Act) (N : Nat) (e : List (Nat × Value)) (i : Nat) (w : World) (K : Value → World → Prop) : Prop :=
  ∀ w1, w.grownBy w1 none → G w1 → ∀ a, a.tmps.size = N → (∀ t, safeB ol i t = true → a.tmps.getD t undef = a0.tmps.getD t undef) → (∀ j oj d, depB ol i j = true → ol[j]? = some oj → oj.dst = some d → PhT bigs φ e j (a.tmps.getD d undef)) →
    ∀ o, ol[i]? = some o → wpList P ol.toArray (fun ex a' w' => ex = .normal ∧ ∃ v, ((o.dst = none ∧ a' = a) ∨ ∃ d, o.dst = some d ∧ a' = putsL a [(d, v)]) ∧ K v w' ∧ G w') [o] (putsL a []) w1
def readyT (ol : List Oper) (todo : List Nat) : List Nat := todo.filter fun i => todo.all fun j => !depB ol i j
def KT (P : Program) (ol : List Oper) (bigs : List Nat) (φ : Nat → Value → Prop) (G : World → Prop) (a0 : Act) (N : Nat) (Q : Exit → Act → World → Prop) : Nat → List Nat → List (Nat × Value) → World → Prop
  | 0, _, e, w => ∀ w1, w.grownBy w1 none → ∀ a', a'.tmps.size = N → a'.defers = a0.defers → (∀ t, (ol.all fun o => o.dst != some t) = true → a'.tmps.getD t undef = a0.tmps.getD t undef) →
      (∀ j oj d, ol[j]? = some oj → oj.dst = some d → PhT bigs φ e j (a'.tmps.getD d undef)) → Q .normal (putsL a' []) w1
  | n + 1, todo, e, w => ∀ i ∈ readyT ol todo, KI P ol bigs φ G a0 N e i w fun v w' => KT P ol bigs φ G a0 N Q n (todo.erase i) ((i, v) :: e) w'
theorem KT.stable : ∀ {n : Nat} {todo : List Nat} {e : List (Nat × Value)} {w w2 : World}, KT P ol bigs φ G a0 N Q n todo e w → w.grownBy w2 none → KT P ol bigs φ G a0 N Q n todo e w2
  | 0, _, _, _, _, h, E => fun w1 E1 => h w1 (grown_trans E E1)
  | _ + 1, _, _, _, _, h, E => fun i hi w1 E1 => h i hi w1 (grown_trans E E1)
def ObR9 (P : Program) (ol : List Oper) (bigs : List Nat) (φ : Nat → Value → Prop) (G : World → Prop) (a0 : Act) (N : Nat) (i : Nat) (o : Oper) : Prop :=
  ∀ (e : List (Nat × Value)) (a : Act) (w : World), a.tmps.size = N → G w → (∀ t, safeB ol i t = true → a.tmps.getD t undef = a0.tmps.getD t undef) → (∀ j oj d, depB ol i j = true → ol[j]? = some oj → oj.dst = some d → PhT bigs φ e j (a.tmps.getD d undef)) →
    wpList P ol.toArray (fun ex a' w' => ex = .normal ∧ (∃ d v, o.dst = some d ∧ a' = putsL a [(d, v)] ∧ φ i v) ∧ w.grownBy w' none) [o] (putsL a []) w
def ObRs9 (P : Program) (ol : List Oper) (bigs : List Nat) (φ : Nat → Value → Prop) (G : World → Prop) (a0 : Act) (N : Nat) : Nat → List Oper → Prop
  | _, [] => True
  | i, o :: r => (bigs.contains i = false → ObR9 P ol bigs φ G a0 N i o) ∧ ObRs9 P ol bigs φ G a0 N (i + 1) r
theorem ObRs9.nil {i : Nat} : ObRs9 P ol bigs φ G a0 N i [] := trivial
theorem ObRs9.cons {i : Nat} {o : Oper} {r : List Oper} (h : ObR9 P ol bigs φ G a0 N i o) (h' : ObRs9 P ol bigs φ G a0 N (i + 1) r) : ObRs9 P ol bigs φ G a0 N i (o :: r) := ⟨fun _ => h, h'⟩
theorem ObRs9.pass {i : Nat} {o : Oper} {r : List Oper} (hh : bigs.contains i = true) (h' : ObRs9 P ol bigs φ G a0 N (i + 1) r) : ObRs9 P ol bigs φ G a0 N i (o :: r) := ⟨fun h => absurd (hh.symm.trans h) (by decide), h'⟩
theorem ObRs9.getx : ∀ {l : List Oper} {i : Nat}, ObRs9 P ol bigs φ G a0 N i l → ∀ j o, l[j]? = some o → bigs.contains (i + j) = false → ObR9 P ol bigs φ G a0 N (i + j) o
  | [], _, _, j, o, h, _ => by simp at h
  | o' :: r, i, h, 0, o, hj, hs => by simp at hj; subst hj; exact h.1 hs
  | o' :: r, i, h, j + 1, o, hj, hs => by
    have := ObRs9.getx h.2 j o (by simpa using hj) (by rwa [show i + 1 + j = i + (j + 1) by omega])
    rwa [show i + 1 + j = i + (j + 1) by omega] at this
theorem region_tree_steps (hlex : lexB' ol = true) (hdn : dstNB ol N = true) (hdst : dstsB ol = true) (hbl : (bigs.all fun i => Nat.blt i ol.length) = true)
    (hG : ∀ w1 w2, w1.grownBy w2 none → G w1 → G w2) (obL : ∀ i o, ol[i]? = some o → bigs.contains i = false → ObR9 P ol bigs φ G a0 N i o) :
    ∀ (fuel : Nat) (listed : Array Bool) (todo : List Nat) (e : List (Nat × Value)) (a : Act) (w : World), TInv ol bigs φ a0 N listed todo e a → KT P ol bigs φ G a0 N Q todo.length todo e w → G w → (List.range ol.length).countP (fun i => !listed.getD i true) ≤ fuel → wpAny P .any ol.toArray Q fuel listed a w := by
  have done : ∀ (listed : Array Bool) (todo : List Nat) (e : List (Nat × Value)) (a : Act) (w : World), TInv ol bigs φ a0 N listed todo e a → KT P ol bigs φ G a0 N Q todo.length todo e w → Region.ready .any ol.toArray listed = [] → Q .normal a w := by
    intro listed todo ee a w I hk hr
    have hall : ∀ i, i < ol.length → listed.getD i true = true := by
      intro i
      induction i using Nat.strongRecOn with
      | _ i ih =>
        intro hi
        by_cases hq : listed.getD i true = true
        · exact hq
        · exfalso
          have hm : i ∈ Region.ready .any ol.toArray listed := by
            rw [mem_ready]
            refine ⟨by simpa using hq, ol[i], by simp [hi], fun e he hb => ?_⟩
            have h1 := List.all_eq_true.1 hlex i (by simp [hi])
            simp only [List.getElem?_eq_getElem hi, Array.all_eq_true_iff_forall_mem, Bool.or_eq_true, Bool.not_eq_true', Nat.blt_eq] at h1
            have h2 := (h1 e he).resolve_left (by simp [hb])
            exact getD_true_lt (ih e.on h2 (by omega)) (by rw [I.lsize]; omega)
          rw [hr] at hm
          cases hm
    have ht : todo = [] := by
      rw [List.eq_nil_iff_forall_not_mem]
      intro i hi
      obtain ⟨hb, hl⟩ := (I.todos i).1 hi
      have := List.all_eq_true.1 hbl i hb
      rw [hall i (by simpa [Nat.blt_eq] using this)] at hl
      cases hl
    subst ht
    exact hk w (grown_refl _ _) a I.size I.defers (fun t ht => I.base t fun j o hj _ hd' => by
      have := List.all_eq_true.1 ht o (List.mem_of_getElem? hj)
      simp [hd'] at this) (fun j oj d hj hd' => I.phi j oj d hj (hall j (List.getElem?_eq_some_iff.1 hj).1) hd')
  intro fuel
  induction fuel with
  | zero =>
    intro listed todo ee a w I hk hg hcnt
    have hr : Region.ready .any ol.toArray listed = [] := by
      rw [List.eq_nil_iff_forall_not_mem]
      intro i hi
      obtain ⟨h1, o, ho, _⟩ := mem_ready.1 hi
      have hlt : i < ol.length := by simpa using (Array.getElem?_eq_some_iff.1 ho).1
      have hz : (List.range ol.length).countP (fun i => !listed.getD i true) = 0 := by omega
      rw [List.countP_eq_zero] at hz
      exact hz i (by simp [hlt]) (by simp [h1])
    exact ⟨hr, done listed todo ee a w I hk hr⟩
  | succ fuel ih =>
    intro listed todo ee a w I hk hg hcnt
    refine ⟨fun hr => done listed todo ee a w I hk hr, fun i hi => ?_⟩
    obtain ⟨hun, o, ho, hwait⟩ := mem_ready.1 hi
    have ho' : ol[i]? = some o := by simpa using ho
    have hlt : i < ol.length := (List.getElem?_eq_some_iff.1 ho').1
    have hls : i < listed.size := by rw [I.lsize]; exact hlt
    have hcnt' : (List.range ol.length).countP (fun j => !(listed.setIfInBounds i true).getD j true) ≤ fuel := by
      have : (List.range ol.length).countP (fun j => !(listed.setIfInBounds i true).getD j true) < (List.range ol.length).countP (fun j => !listed.getD j true) := by
        refine countP_lt _ _ (fun y hy => ?_) _ i (by simp [hlt]) (by simp [hun]) (by simp [Array.getD_eq_getD_getElem?, hls])
        by_cases hiy : i = y
        · subst hiy; simp [Array.getD_eq_getD_getElem?, hls] at hy
        · rwa [getD_set_ne true hiy] at hy
      omega
    have hbase : ∀ t, safeB ol i t = true → a.tmps.getD t undef = a0.tmps.getD t undef := by
      intro t ht
      refine I.base t fun j oj hj hlj hd => ?_
      have h1 := List.all_eq_true.1 ht oj (List.mem_of_getElem? hj)
      simp only [Bool.or_eq_true, bne_iff_ne, ne_eq, Array.any_eq_true, Bool.and_eq_true, beq_iff_eq] at h1
      rcases h1 with h1 | ⟨q, hq, h1, h2⟩
      · exact h1 hd
      · have := getD_of_false (I.closed j oj hj hlj _ (Array.getElem_mem hq) h2)
        rw [h1, hun] at this
        cases this
    have hdep : ∀ j oj d, depB ol i j = true → ol[j]? = some oj → oj.dst = some d → PhT bigs φ ee j (a.tmps.getD d undef) := by
      intro j oj d hj hoj hd
      obtain ⟨e, he, h1, h2⟩ := depB_spec ho' hj
      exact I.phi j oj d hoj (getD_of_false (by rw [← h1]; exact hwait e he h2)) hd
    have hset : ∀ j, j ≠ i → (listed.setIfInBounds i true).getD j true = listed.getD j true := fun j hj => getD_set_ne true (Ne.symm hj)
    have hseti : (listed.setIfInBounds i true).getD i true = true := by simp [Array.getD_eq_getD_getElem?, hls]
    have hclosed : ∀ j oj, ol[j]? = some oj → (listed.setIfInBounds i true).getD j true = true → ∀ e ∈ oj.after, Region.binds .any e = true → (listed.setIfInBounds i true).getD e.on false = true := by
      intro j oj hoj hlj e he hb
      refine getD_set_true ?_
      by_cases hji : j = i
      · subst hji
        rw [ho'] at hoj; cases hoj
        exact hwait e he hb
      · rw [hset j hji] at hlj
        exact I.closed j oj hoj hlj e he hb
    have hne : ∀ j oj d, ol[j]? = some oj → j ≠ i → o.dst = some d → oj.dst ≠ some d := by
      intro j oj d hoj hji hd hd'
      have hj : j < ol.length := (List.getElem?_eq_some_iff.1 hoj).1
      have h1 := List.all_eq_true.1 (List.all_eq_true.1 hdst i (by simp [hlt])) j (by simp [hj])
      simp only [ho', hoj, Bool.or_eq_true, beq_iff_eq, bne_iff_ne, ne_eq] at h1
      rcases h1 with h1 | h1 | h1
      · exact hji h1.symm
      · exact h1 (by rw [hd, hd'])
      · rw [hd] at h1; cases h1
    -- what is left of the frame, behind a value in slot d
    have hframe : ∀ d v (e' : List (Nat × Value)), o.dst = some d → (∀ j u, j ≠ i → PhT bigs φ ee j u → PhT bigs φ e' j u) → PhT bigs φ e' i v → 
        (∀ t, (∀ j oj, ol[j]? = some oj → (listed.setIfInBounds i true).getD j true = true → oj.dst ≠ some t) → (putsL a [(d, v)]).tmps.getD t undef = a0.tmps.getD t undef) ∧
        (∀ j oj d', ol[j]? = some oj → (listed.setIfInBounds i true).getD j true = true → oj.dst = some d' → PhT bigs φ e' j ((putsL a [(d, v)]).tmps.getD d' undef)) := by
      intro d v e' hd hR hv
      have hdN : d < a.tmps.size := by
        have h1 := List.all_eq_true.1 hdn o (List.mem_of_getElem? ho')
        simp only [hd, Nat.blt_eq] at h1
        rw [I.size]; exact h1
      refine ⟨fun t ht => ?_, fun j oj d' hoj hlj hd' => ?_⟩
      · have hdt : d ≠ t := fun e => ht i o ho' hseti (by rw [hd, e])
        rw [get_put_ne hdt]
        refine I.base t fun j oj hoj hlj => ?_
        by_cases hji : j = i
        · subst hji; rw [hun] at hlj; cases hlj
        · exact ht j oj hoj (by rw [hset j hji]; exact hlj)
      · by_cases hji : j = i
        · subst hji
          rw [ho'] at hoj; cases hoj
          rw [hd] at hd'; cases hd'
          rw [get_put_eq hdN]
          exact hv
        · rw [hset j hji] at hlj
          have : d ≠ d' := fun e => hne j oj d hoj hji hd (by rw [hd', e])
          rw [get_put_ne this]
          exact hR j _ hji (I.phi j oj d' hoj hlj hd')
    by_cases hin : bigs.contains i = true
    · have hmem : i ∈ bigs := by simpa using hin
      have hit : i ∈ todo := (I.todos i).2 ⟨hmem, hun⟩
      have hrt : i ∈ readyT ol todo := by
        unfold readyT
        rw [List.mem_filter]
        refine ⟨hit, List.all_eq_true.2 fun j hj => ?_⟩
        cases hd : depB ol i j with
        | false => rfl
        | true =>
          obtain ⟨x, hx, h1, h2⟩ := depB_spec ho' hd
          have h3 := getD_of_false (hwait x hx h2)
          rw [h1, ((I.todos j).1 hj).2] at h3
          cases h3
      obtain ⟨n, hn⟩ : ∃ n, todo.length = n + 1 := ⟨todo.length - 1, by have := List.length_pos_of_mem hit; omega⟩
      have hn2 : (todo.erase i).length = n := by rw [List.length_erase_of_mem hit, hn]; rfl
      rw [hn] at hk
      have h0 := hk i hrt w (grown_refl _ _) hg a I.size hbase hdep o ho'
      refine wp_one (by simpa using ho') h0 fun a' w' h => ?_
      obtain ⟨v, h1, h2, h3⟩ := h
      have htodo : ∀ x, x ∈ todo.erase i ↔ x ∈ bigs ∧ (listed.setIfInBounds i true).getD x true = false := by
        intro x
        rw [I.nodup.mem_erase_iff, I.todos]
        by_cases hxi : x = i
        · subst hxi; simp [hseti]
        · rw [hset x hxi]; simp [hxi]
      refine ih _ (todo.erase i) ((i, v) :: ee) a' w' ?_ (by rw [hn2]; exact h2) h3 hcnt'
      have hpi : PhT bigs φ ((i, v) :: ee) i v := ⟨fun _ => by simp, fun hh => absurd (hin.symm.trans hh) (by decide)⟩
      rcases h1 with ⟨hd, rfl⟩ | ⟨d, hd, rfl⟩
      · refine ⟨I.size, I.defers, fun t ht => ?_, fun j oj d' hoj hlj hd' => ?_, hclosed, by simp [I.lsize], htodo, I.nodup.erase i⟩
        · refine I.base t fun j oj hoj hlj => ?_
          by_cases hji : j = i
          · subst hji; rw [hun] at hlj; cases hlj
          · exact ht j oj hoj (by rw [hset j hji]; exact hlj)
        · by_cases hji : j = i
          · subst hji
            rw [ho'] at hoj; cases hoj
            rw [hd] at hd'; cases hd'
          · rw [hset j hji] at hlj
            exact PhT.mono hji (I.phi j oj d' hoj hlj hd')
      · obtain ⟨f1, f2⟩ := hframe d v ((i, v) :: ee) hd (fun j u hj h => h.mono hj) hpi
        exact ⟨by rw [putsL_size, I.size], by rw [putsL_defers, I.defers], f1, f2, hclosed, by simp [I.lsize], htodo, I.nodup.erase i⟩
    · have hin' : bigs.contains i = false := by simpa using hin
      refine wp_one (by simpa using ho') (obL i o ho' hin' ee a w I.size hg hbase hdep) fun a' w' h => ?_
      obtain ⟨⟨d, v, hd, rfl, hv⟩, hgr⟩ := h
      obtain ⟨f1, f2⟩ := hframe d v ee hd (fun _ _ _ h => h) ⟨fun hh => absurd (hin'.symm.trans hh) (by decide), fun _ => hv⟩
      refine ih _ todo ee _ w' ⟨by rw [putsL_size, I.size], by rw [putsL_defers, I.defers], f1, f2, hclosed, by simp [I.lsize], fun x => ?_, I.nodup⟩ (hk.stable hgr) (hG _ _ hgr hg) hcnt'
      rw [I.todos]
      by_cases hxi : x = i
      · subst hxi; simp [hseti, hun]; simpa using hin'
      · rw [hset x hxi]
theorem any_tree (bigs : List Nat) (hlex : lexB' ol = true) (hdn : dstNB ol N = true) (hdst : dstsB ol = true) (hbl : (bigs.all fun i => Nat.blt i ol.length) = true) (hnd : decide bigs.Nodup = true)
    {l : List (Nat × Value)} {w : World} (hN : a0.tmps.size = N) (hG : ∀ w1 w2, w1.grownBy w2 none → G w1 → G w2) (g0 : G w) (obL : ObRs9 P ol bigs φ G (putsL a0 l) N 0 ol) (hdf : (putsL a0 l).defers = a0.defers)
    (main : KT P ol bigs φ G (putsL a0 l) N Q bigs.length bigs [] w) : RegAny P ol Q (putsL a0 l) w := by
  have hd : w.grownBy { w with drawn := w.drawn + 1 } none := ⟨rfl, rfl, rfl, Nat.le_refl _, fun _ _ _ => rfl⟩
  have I : TInv ol bigs φ (putsL a0 l) N (Array.replicate ol.length false) bigs [] (putsL a0 l) := by
    refine ⟨slN hN, rfl, fun _ _ => rfl, fun j o d hj hl => ?_, fun j o hj hl => ?_, by simp, fun i => ⟨fun hi => ⟨hi, ?_⟩, fun hi => hi.1⟩, of_decide_eq_true hnd⟩
    · have : j < ol.length := (List.getElem?_eq_some_iff.1 hj).1
      simp [Array.getD_eq_getD_getElem?, this] at hl
    · have : j < ol.length := (List.getElem?_eq_some_iff.1 hj).1
      simp [Array.getD_eq_getD_getElem?, this] at hl
    · have := List.all_eq_true.1 hbl i hi
      have h3 : i < ol.length := by simpa [Nat.blt_eq] using this
      simp [Array.getD_eq_getD_getElem?, h3]
  exact region_tree_steps (P := P) (Q := Q) hlex hdn hdst hbl hG (fun i o hi hh => by
      have h5 := ObRs9.getx obL i o hi (by rw [Nat.zero_add]; exact hh)
      rw [Nat.zero_add] at h5; exact h5) ol.length (Array.replicate ol.length false) bigs [] (putsL a0 l) _ I (main.stable hd) (hG _ _ hd g0) (Nat.le_trans (List.countP_le_length) (by simp))
theorem kt_step {n : Nat} {todo rs : List Nat} {e : List (Nat × Value)} {w : World} (hr : readyT ol todo = rs) (h : ∀ i ∈ rs, KI P ol bigs φ G a0 N e i w fun v w' => KT P ol bigs φ G a0 N Q n (todo.erase i) ((i, v) :: e) w') : KT P ol bigs φ G a0 N Q (n + 1) todo e w := by
  subst hr; exact h
theorem one_mem {p : Nat → Prop} {x : Nat} (h : p x) : ∀ i ∈ [x], p i := fun i hi => by
  obtain rfl : i = x := by simpa using hi
  exact h
theorem more_mem {p : Nat → Prop} {x y : Nat} {r : List Nat} (h : p x) (h' : ∀ i ∈ y :: r, p i) : ∀ i ∈ x :: y :: r, p i := List.forall_mem_cons.2 ⟨h, h'⟩
theorem kt_end {o : Oper} {d : Nat} {v : Value} {a : Act} {w : World} {K : Value → World → Prop} (hd : o.dst = some d) (g : G w) (h : K v w) :
    wpList P ol.toArray (fun ex a' w' => ex = .normal ∧ ∃ v, ((o.dst = none ∧ a' = a) ∨ ∃ d, o.dst = some d ∧ a' = putsL a [(d, v)]) ∧ K v w' ∧ G w') [] (putsL a [(d, v)]) w := ⟨rfl, v, .inr ⟨d, hd, rfl⟩, h, g⟩
theorem obT_end {o : Oper} {i d : Nat} {v : Value} {a : Act} {w : World} (hd : o.dst = some d) (hv : φ i v) :
    wpList P ol.toArray (fun ex a' w' => ex = .normal ∧ (∃ d v, o.dst = some d ∧ a' = putsL a [(d, v)] ∧ φ i v) ∧ w.grownBy w' none) [] (putsL a [(d, v)]) w := ⟨rfl, ⟨d, v, hd, rfl, hv⟩, grown_refl _ _⟩
end
end Go.Gx

namespace Go.Proofs.Ytdhpalioifjfbaa
open Go.Gx Go.RowKit
attribute [local irreducible] wpList wpStill Code.wp Calls


section
open Go.MapKept
variable {K V : Type} {kv : K → Value} {vv : V → Value} {w w' : World} {r m b t e sz n base p k : Nat} {es : List (K × V)} {D : List Nat} {F : Nat → Prop} {v : Value} {cs : List Value} {L : List By} {P : PM} {ps : List Nat}
theorem Bx.notIt (B : Bx w b t cs) (h : ItC kv vv w r m es D) : b ≠ r := by
  obtain ⟨arr, clock, since, seen, h, _⟩ := h
  intro q; subst q; have := B.symm.trans h; simp at this
theorem It_ne {K2 V2 : Type} {kv2 : K2 → Value} {vv2 : V2 → Value} {m2 : Nat} {es2 : List (K2 × V2)} (M : MapC kv2 vv2 w m2 es2) (h : ItC kv vv w r m es D) : m2 ≠ r := by
  obtain ⟨arr, clock, since, seen, h, _⟩ := h
  obtain ⟨_, _, h2, _⟩ := M
  intro q; subst q; have := h2.symm.trans h; simp at this
theorem Own.notIt (O : Own w base e sz v n cs) (h : ItC kv vv w r m es D) : ¬ Bl v r := by
  obtain ⟨arr, clock, since, seen, h, _⟩ := h
  intro hx
  rcases O.2 with ⟨rfl, _⟩ | ⟨g, off, cap, cur, fr, rfl, hb, hg, _⟩
  · cases hx
  · injection hx with hx
    subst hx
    have := hg.symm.trans h; simp at this
theorem PageR.notIt (h : PageR w base p L F) (I : ItC kv vv w r m es D) : ¬ F r := fun hf => by
  obtain ⟨vb, n, bs, _, a1, a2, _, hF⟩ := h
  rcases (hF r).1 hf with hf | hf
  · exact Bx.notIt a1 I hf.symm
  · exact Own.notIt a2 I hf
theorem PgAll.notIt (h : PgAll w base P ps F) (I : ItC kv vv w r m es D) : ¬ F r := fun hf => by
  obtain ⟨_, Fs, a2, _, a4⟩ := h
  obtain ⟨i, hi, hf⟩ := (a4 r).1 hf
  exact (a2 i hi).notIt I hf
end
section
variable {P : PM} {ps psc : List Nat} {D : List Nat} {i p p2 : Nat} {k : Int} {L : List By}
theorem esP_at (hl : ps.length = P.length) (hn : (P.map Prod.fst).Nodup) (hi : (esP P ps)[i]? = some (k, p)) : ∃ L, P[i]? = some (k, L) ∧ mget P k = some L ∧ mget (esP P ps) k = some p := by
  have hm : mget (esP P ps) k = some p := (mget_eq (by rw [esP_keys hl]; exact hn)).2 (List.mem_of_getElem? hi)
  unfold esP at hi
  rw [List.getElem?_zipWith] at hi
  cases h1 : P[i]? with
  | none => rw [h1] at hi; simp at hi
  | some a =>
    cases h2 : ps[i]? with
    | none => rw [h1, h2] at hi; simp at hi
    | some b =>
      rw [h1, h2] at hi
      simp only [Option.some.injEq, Prod.mk.injEq] at hi
      obtain ⟨e1, e2⟩ := hi
      subst e1
      exact ⟨a.2, rfl, (mget_eq hn).2 (List.mem_of_getElem? h1), hm⟩
theorem pick_snoc {V : Type} [Inhabited V] {M : List (Int × V)} {v : V} (hi : M[i]? = some (k, v)) : pick M (D ++ [i]) = pick M D ++ [(k, v)] := by
  unfold pick
  rw [List.map_append, List.map_cons, List.map_nil]
  congr 1
  rw [List.getD_eq_getElem?_getD, hi]; rfl
theorem pick_len {V : Type} [Inhabited V] {M : List (Int × V)} : (pick M D).length = D.length := by unfold pick; simp
theorem esP_put (hn : (P.map Prod.fst).Nodup) (hi : P[i]? = some (k, L)) (hd : i ∉ D) (hlt : ∀ j ∈ D, j < P.length) (hc : psc.length = D.length) : mput (esP (pick P D) psc) k p2 = esP (pick P (D ++ [i])) (psc ++ [p2]) := by
  have h1 := pick_put hn hi hd hlt
  have hk : mlook (pick P D) k = none := by
    cases h : mlook (pick P D) k with
    | none => rfl
    | some q =>
      exfalso
      have h2 := congrArg List.length h1
      unfold mput at h2
      rw [h] at h2
      rw [pick_snoc hi] at h2
      simp at h2
  have hl : psc.length = (pick P D).length := by rw [pick_len, hc]
  unfold mput
  rw [esP_look hl, hk, pick_snoc hi, esP_snoc hl]; rfl
end

theorem HCopy_m {base k pm mm : Nat} {P : PM} {ps : List Nat} {M : AM} {nx : Int} {F0 : Nat → Prop} {w : World} (hbase : base ≤ w.heap.size) (hk : Bx w k 71 [.map (some pm), .int .i64 nx, .map (some mm)]) (hA : PgAll w base P ps F0) (hPm : MapC (.int .i64) pv w pm (esP P ps)) (hMm : MapC (.int .u64) plv w mm M) (hne : pm ≠ mm) (hI0 : HInv P nx M)  : Ret Try.prog 33 #[(ptr k 0)] w (fun v' w' => Gr w w' F0 ∧ ∃ (c m1 m2 : Nat) (Dd psc : List Nat) (M2 : AM) (FK FC : Nat → Prop), v' = ptr c 0 ∧ w.heap.size ≤ c ∧ w.heap.size ≤ m1 ∧ w.heap.size ≤ m2 ∧ m1 ≠ m2 ∧ Bx w' c 71 [.map (some m1), .int .i64 nx, .map (some m2)] ∧ PgAll w' base P ps FK ∧ NewF w.heap.size F0 FK ∧ PgAll w' w.heap.size (pick P Dd) psc FC ∧ MapC (.int .i64) pv w' m1 (esP (pick P Dd) psc) ∧ MapC (.int .u64) plv w' m2 M2 ∧ M2.Perm M ∧ (pick P Dd).Perm P ∧ Dj FK FC) := by
 have hi_k := hk.lt
 have hi_pm := hPm.lt
 have hi_mm := hMm.lt
 have hps := hA.1
 have hI := hI0
 have hb := Gr.refl w F0
 refine enter (N := 43) Try.func33 rfl rfl (by simp) fun a hN hd hA => ?_
 have b : a.tmps.getD 0 undef = (ptr k 0) := hA 0 (by simp)
 clear hA
 refine zF fun _ a => zH (zD rfl ?_)
 refine zB (a _ _ (zF fun _ a => zF fun _ d => zH (zG (zC hN rfl b) (op_peq_some ptrt53 (zA hN rfl) rfl (zB (d _ _ (wp_cond_false (zA hN rfl) (wp_skip (a _ _ (zF fun _ a => zH (op_mkmap (kv := (Value.int .i64)) (vv := pv) ?_)))))))))))
 intro l e o n g f
 obtain ⟨hb, _⟩ := yG hb f
 have hk := hk.keep0 f
 have hA := hA.kz f
 refine zG (zC hN rfl b) (op_nil (zA hN rfl) (zM fld71_1 (zA hN rfl) (zN one3 (zA hN rfl) (hk.cell rfl) (op_mkmap (kv := (Value.int .u64)) (vv := plv) ?_))))
 intro t n r s p o
 have r : ¬ F0 n := fun hf => by have := (hA.lt _ hf).2; omega
 obtain ⟨hb, _⟩ := yG hb o
 have hA := hA.kz o
 refine zf (pv := [(0, (Value.map (some e))), (1, (.int .i64 nx)), (2, (Value.map (some n)))]) (v := (Value.agg #[(Value.map (some e)), (.int .i64 nx), (Value.map (some n))])) ⟨rfl, (zA hN rfl), ⟨rfl, (zA hN rfl), ⟨rfl, (zA hN rfl), trivial⟩⟩⟩ zy (op_box (cs := [(Value.map (some e)), (.int .i64 nx), (Value.map (some n))]) (zA hN rfl) rfl ?_)
 intro z t A B s u
 obtain ⟨hb, _⟩ := yG hb u
 have hA := hA.kz u
 refine zD (zA hN rfl) (zB (a _ _ (zF fun _ a => reg_from mixed ?_)))
 intro A z
 obtain ⟨hb, _⟩ := yG hb z
 have hk := ((hk.keep0 o).keep0 u).keep0 z
 have hA := hA.kz z
 have hMm := (((hMm.keep0 f).keep0 o).keep0 u).keep0 z
 have p := (p.keep0 u).keep0 z
 have s := s.keep0 z
 refine from_still (m := 8) 8 (hd := [_, _, _, _, _, _, _, _]) zy rfl rfl (st_step rfl (fun _ A => zG (zA hN rfl) A) (st_step rfl (fun _ A => op_nil (zA hN rfl) A) (st_step rfl (fun _ A => zM fld71_2 (zA hN rfl) A) (st_step rfl (fun _ A => zN one69 (zA hN rfl) (s.cell rfl) A) (st_step rfl (fun _ A => zG (zC hN rfl b) A) ?_)))))
 refine st_step rfl (fun _ A => op_nil (zA hN rfl) A) (st_step rfl (fun _ A => zM fld71_2 (zA hN rfl) A) (st_step rfl (fun _ A => zN one69 (zA hN rfl) (hk.cell rfl) A) (st_nil (from_seq (tl := [_]) zz zy rfl (zj ok48 (mcopy_ret p hMm zx hI.km) ⟨(zA hN rfl), ⟨(zA hN rfl), trivial⟩⟩ ?_)))))
 rintro _ F ⟨C, M2, D, B⟩
 have F := p
 have := C.size
 have hk := hk.keepM F C
 have hPm := ((((hPm.keep0 f).keep0 o).keep0 u).keep0 z).keep C sB
 have hb := hb.step1 C zx
 refine zB (a _ _ (zF fun _ a => zF fun _ d => zH (zG (zC hN rfl b) (op_nil (zA hN rfl) (zM fld71_0 (zA hN rfl) (zN one68 (zA hN rfl) (hk.cell rfl) (op_range Try.underlying68 (zA hN rfl) hPm ?_)))))))
 intro p f H I hJ b
 obtain ⟨hb, _⟩ := yG hb b
 have hk := hk.keep0 b
 have hA := (hA.keepG (Gr.of C) (Dj.one r)).kz b
 have hMm := (hMm.keep C sB).keep0 b
 have g := ((((g.keep0 o).keep0 u).keep0 z).keep C sB).keep0 b
 have s := (s.keepM F C).keep0 b
 have B := B.keep0 b
 refine zB (d _ _ (wp_block (loop_m (fun mz_ az_ w' => ∃ (Dd psc : List Nat) (FK FC : Nat → Prop), mz_ = (esP P ps).length - Dd.length ∧ (Sl az_ 2 (Value.pointer none)) ∧ (Sl az_ 3 (ptr t 0)) ∧ (Sl az_ 29 (ptr f 0)) ∧ (psc.length = Dd.length) ∧ (NewF w.heap.size F0 FK) ∧ (Dj FK FC) ∧ (Gr w w' F0) ∧ (p.heap.size ≤ w'.heap.size) ∧ (Bx w' k 71 [(Value.map (some pm)), (.int .i64 nx), (Value.map (some mm))]) ∧ (MapC (.int .u64) plv w' mm M) ∧ (Bx w' t 71 [(Value.map (some e)), (.int .i64 nx), (Value.map (some n))]) ∧ (MapC (.int .u64) plv w' n M2) ∧ (PgAll w' base P ps FK) ∧ (MapC (.int .i64) pv w' e (esP (pick P Dd) psc)) ∧ (PgAll w' w.heap.size (pick P Dd) psc FC) ∧ (ItC (.int .i64) pv w' f pm (esP P ps) Dd)) _ hN hd ⟨[], [], F0, NoB, rfl, (zU hN rfl), (zU hN rfl), (zU hN rfl), rfl, (NewF.refl _ _), (fun _ _ q => q.elim), hb, (Nat.le_refl _), hk, hMm, s, B, hA, g, (PgAll.nil _ _), hJ⟩ ?_)))
 rintro _ C u b p ⟨Dd, psc, FK, FC, rfl, r, o, g, hcl, hNK, hdj, hb, z, hk, hMm, s, B, hA, f, hC, hJ⟩
 have := hb.size
 refine zF fun _ d => zH ?_
 have hJ_old := hJ
 refine op_next (zC b rfl g) hJ (fun hall => ?_) (fun J I z C F H hJ u => ?_)
 ·
  refine zW (zA b rfl) rfl ?_
  refine zB (d _ _ (zF fun _ d => wp_cond_false (zA b rfl) (wp_exit (then_exit (then_exit (blk_hit (a _ _ (zF fun _ a => zH (zG (zC b rfl o) (zD (zA b rfl) (zB (a _ _ (wp_ret (ret1 rfl p (zA b rfl) ⟨_, rfl, ?_⟩))))))))))))))
  have a := esP_len hps
  exact ⟨hb, t, _, _, _, psc, M2, FK, FC, rfl, by omega, by omega, by omega, by omega, s, hA, hNK, hC, f, B, D, pick_perm hJ.rng.1 (fun j hj => a ▸ hJ.rng.2 j hj) (fun j hj => hall j zx), hdj⟩
 have := u.size
 have hk := hk.keep u (fun hh => Bx.notIt hk hJ_old (zE hh))
 have hMm := hMm.keep u (fun hh => It_ne hMm hJ_old (zE hh))
 have s := s.keep u (fun hh => Bx.notIt s hJ_old (zE hh))
 have B := B.keep u (fun hh => It_ne B hJ_old (zE hh))
 have hA := hA.keepG (Gr.of u) (Dj.one (hA.notIt hJ_old))
 have f := f.keep u (fun hh => It_ne f hJ_old (zE hh))
 have hC := hC.keepG (Gr.of u) (Dj.one (hC.notIt hJ_old))
 have hb := hb.step1 u zx
 refine zW (zA b rfl) rfl (zB (d _ _ (zF fun _ d => wp_cond_true (zA b rfl) (wp_skip (d _ _ (wp_block (zF fun _ d => zH (op_entry (k := z) (v := C) (zC b rfl g) hJ F ?_))))))))
 obtain ⟨J, hiP, D, u⟩ := esP_at hps hI0.kp F
 have a := esP_len hps
 have hDl : ∀ j ∈ Dd, j < P.length := fun j hj => a ▸ hJ.rng.2 j (List.mem_append.2 (.inl hj))
 refine zW (zA b rfl) rfl (zW (zA b rfl) rfl (zD (zA b rfl) (zD (zA b rfl) (zB (d _ _ (reg_split (hd := [_, _, _, _, _, _, _]) (tl := _) 7 mixed zy rfl rfl (any_tree (φ := phiV [(fun uz => uz = (ptr t 0)), (fun uz => uz = (ptr t 0)), (fun uz => uz = (ptr t 0)), (fun uz => uz = (Value.map (some e))), (fun uz => uz = (.int .i64 z)), (fun uz => uz = (ptr C 0)), (fun _ => True)]) (G := fun w' => Bx w' t 71 [(Value.map (some e)), (.int .i64 nx), (Value.map (some n))]) [6] zy zy zy zy zy b (fun l a E h => h.keep0 E) s (ObRs9.cons ?_ (ObRs9.cons ?_ (ObRs9.cons ?_ (ObRs9.cons ?_ (ObRs9.cons ?_ (ObRs9.cons ?_ (ObRs9.pass rfl (ObRs9.nil)))))))) (by simp only [putsL_defers]) ?_)))))))
 ·
  intro eA aA wA hNA hGA hbsA hdpA
  have a := (hbsA 3 rfl).trans (zL b rfl o)
  refine zG (zC hNA rfl a) ?_
  exact obT_end rfl rfl
 ·
  intro eA aA wA hNA hGA hbsA hdpA
  have a : Sl aA 35 (ptr t 0) := (hdpA 0 _ 35 zy rfl rfl).2 rfl
  refine op_nil (zC hNA rfl a) ?_
  exact obT_end rfl rfl
 ·
  intro eA aA wA hNA hGA hbsA hdpA
  have a : Sl aA 36 (ptr t 0) := (hdpA 1 _ 36 zy rfl rfl).2 rfl
  refine zM fld71_0 (zC hNA rfl a) ?_
  exact obT_end rfl rfl
 ·
  intro eA aA wA hNA hGA hbsA hdpA
  have a : Sl aA 37 (ptr t 0) := (hdpA 2 _ 37 zy rfl rfl).2 rfl
  refine zN one68 (zC hNA rfl a) (hGA.cell rfl) ?_
  exact obT_end rfl rfl
 ·
  intro eA aA wA hNA hGA hbsA hdpA
  have a := (hbsA 4 rfl).trans (zU b rfl)
  refine zG (zC hNA rfl a) ?_
  exact obT_end rfl rfl
 ·
  intro eA aA wA hNA hGA hbsA hdpA
  have a := (hbsA 5 rfl).trans (zU b rfl)
  refine zG (zC hNA rfl a) ?_
  exact obT_end rfl rfl
 refine kt_step (rs := [6]) zy (one_mem ?_)
 intro n a _ d t F l o_ ho_; obtain rfl := zE ho_
 obtain ⟨hb, _⟩ := yG hb a
 have hk := hk.keep0 a
 have hMm := hMm.keep0 a
 have s := s.keep0 a
 have B := B.keep0 a
 have hA := hA.kz a
 have f := f.keep0 a
 have hC := hC.kz a
 have hJ := hJ.keepG (zi a NoB) (fun h => h) (fun h => h)
 have a : Sl d 40 (ptr C 0) := (l 5 _ 40 zy rfl rfl).2 rfl
 refine zj ok49 (pa_copy hA D u zx) ⟨(zC t rfl a), trivial⟩ ?_
 rintro _ F ⟨a, u, t, l, rfl, D, d, C, hG, hdg⟩
 have lo_G : ∀ k, l k → n.heap.size ≤ k := fun k hk => (hG.lt k hk).1
 have n : ¬ l e := fun hf => by have := lo_G _ hf; have := f.lt; omega
 have D : Dj FC l := Dj.fresh (fun k hk => (hC.lt k hk).2) lo_G
 have F := hk.lt
 have F := hMm.lt
 have F := s.lt
 have F := B.lt
 have F := f.lt
 have F := hC.lt
 have hA_old := hA
 have := a.size
 have hk := hk.keepG a (hA_old.notBx hk zz zz)
 have hMm := hMm.keepG a (hA_old.notMap hMm)
 have s := s.keepG a (hA_old.notBx s zz zz)
 have B := B.keepG a (hA_old.notMap B)
 have f := f.keepG a (hA_old.notMap f)
 have hJ := hJ.keepG a (hA_old.notIt hJ) (hA_old.notMap hJ.map)
 have hb := hb.stepF a (fun y hy A => (hNK y A).resolve_right zx)
 have J : Dj FC t := Dj.stepF C (fun k hk => (F k hk).2) hdj.symm
 have F : NewF w.heap.size F0 t := NewF.trans hNK C zx
 have hG := hG.mono (base' := w.heap.size) zx
 refine kt_end rfl s ?_
 intro S C Q K R O L
 have R := R.trans ((by simp only [putsL_defers] : _ = _).trans p)
 obtain ⟨hb, _⟩ := yG hb C
 have f := f.keep0 C
 have hC := (hC.keepG a hdj.symm).kz C
 have d := d.kz C
 have a := (O 2 rfl).trans (zL b rfl r)
 have p := (O 3 rfl).trans (zL b rfl o)
 have o := (O 29 rfl).trans (zL b rfl g)
 have b : Sl Q 38 (Value.map (some e)) := (L 3 _ 38 rfl rfl).2 rfl
 have e : Sl Q 39 (.int .i64 z) := (L 4 _ 39 rfl rfl).2 rfl
 have g : Sl Q 41 (ptr u 0) := (zE ((L 6 _ 41 rfl rfl).1 rfl)).symm
 refine split_end (from_seq (tl := [_]) zz zy rfl ?_)
 have r := f
 refine op_mapput (k := z) (v := u) Try.underlying68 (Go.Gx.key_int Try.underlying3) (zC K rfl b) (zC K rfl e) (zC K rfl g) f ?_
 intro f e b
 have := b.size
 have hk := (hk.keep0 C).keepM r b
 have hMm := (hMm.keep0 C).keep b sB
 have s := (s.keep0 C).keepM r b
 have B := (B.keep0 C).keep b sB
 have hC := hC.keepG (Gr.of b) (Dj.one (hC.notMap r))
 have hJ := (hJ.keepG (zi C NoB) (fun h => h) (fun h => h)).keepG (Gr.of b) (fun q => by have := zE q; omega) (fun q => by have := zE q; omega)
 have d := d.keepG (Gr.of b) (Dj.one (d.notMap r))
 have hG := (hG.kz C).keepG (Gr.of b) (Dj.one n)
 have hb := hb.step1 b zx
 refine zB (blk_normal ?_)
 -- round 30T
 exact zg _ K R ⟨(Dd ++ [I]), (psc ++ [u]), t, (fun x => FC x ∨ l x), rfl, (zL K rfl a), (zL K rfl p), (zL K rfl o), (by simp [hcl]), F, (fun y hy hf => hf.elim (fun q => J y q hy) (fun q => hdg y hy q)), hb, zx, hk, hMm, s, B, d, (by have A := e; rw [esP_put hI0.kp hiP H hDl hcl] at A; exact A), (by rw [pick_snoc hiP]; exact hC.snoc hG D), hJ⟩ (by have := pick_lt hJ.rng.1 hJ.rng.2; simp; omega)

theorem HCopy_n {base k : Nat} {nx : Int} {w : World} (hbase : base ≤ w.heap.size) (hk : Bx w k 71 [.map none, .int .i64 nx, .map none])  : Ret Try.prog 33 #[(ptr k 0)] w (fun v' w' => Below w.heap.size w w' ∧ ∃ (c m1 m2 : Nat), v' = ptr c 0 ∧ w.heap.size ≤ c ∧ w.heap.size ≤ m1 ∧ w.heap.size ≤ m2 ∧ m1 ≠ m2 ∧ Bx w' c 71 [.map (some m1), .int .i64 nx, .map (some m2)] ∧ MapC (.int .i64) pv w' m1 [] ∧ MapC (.int .u64) plv w' m2 []) := by
 have hi_k := hk.lt
 have hb := Below.refl w.heap.size w
 refine enter (N := 43) Try.func33 rfl rfl (by simp) fun a hN hd hA => ?_
 have b : a.tmps.getD 0 undef = (ptr k 0) := hA 0 (by simp)
 clear hA
 refine zF fun _ a => zH (zD rfl ?_)
 refine zB (a _ _ (zF fun _ a => zF fun _ d => zH (zG (zC hN rfl b) (op_peq_some ptrt53 (zA hN rfl) rfl (zB (d _ _ (wp_cond_false (zA hN rfl) (wp_skip (a _ _ (zF fun _ a => zH (op_mkmap (kv := (Value.int .i64)) (vv := pv) ?_)))))))))))
 intro l f j h e g
 obtain ⟨hb, _⟩ := yE hb g
 have hk := hk.keep0 g
 refine zG (zC hN rfl b) (op_nil (zA hN rfl) (zM fld71_1 (zA hN rfl) (zN one3 (zA hN rfl) (hk.cell rfl) (op_mkmap (kv := (Value.int .u64)) (vv := plv) ?_))))
 intro o h l n g j
 obtain ⟨hb, _⟩ := yE hb j
 refine zf (pv := [(0, (Value.map (some f))), (1, (.int .i64 nx)), (2, (Value.map (some h)))]) (v := (Value.agg #[(Value.map (some f)), (.int .i64 nx), (Value.map (some h))])) ⟨rfl, (zA hN rfl), ⟨rfl, (zA hN rfl), ⟨rfl, (zA hN rfl), trivial⟩⟩⟩ zy (op_box (cs := [(Value.map (some f)), (.int .i64 nx), (Value.map (some h))]) (zA hN rfl) rfl ?_)
 intro p o q r l n
 obtain ⟨hb, _⟩ := yE hb n
 refine zD (zA hN rfl) (zB (a _ _ (zF fun _ a => reg_from mixed ?_)))
 intro q p
 obtain ⟨hb, _⟩ := yE hb p
 have hk := ((hk.keep0 j).keep0 n).keep0 p
 have g := (g.keep0 n).keep0 p
 have l := l.keep0 p
 refine from_still (m := 8) 8 (hd := [_, _, _, _, _, _, _, _]) zy rfl rfl (st_step rfl (fun _ q => zG (zA hN rfl) q) (st_step rfl (fun _ q => op_nil (zA hN rfl) q) (st_step rfl (fun _ q => zM fld71_2 (zA hN rfl) q) (st_step rfl (fun _ q => zN one69 (zA hN rfl) (l.cell rfl) q) (st_step rfl (fun _ q => zG (zC hN rfl b) q) ?_)))))
 refine st_step rfl (fun _ q => op_nil (zA hN rfl) q) (st_step rfl (fun _ q => zM fld71_2 (zA hN rfl) q) (st_step rfl (fun _ q => zN one69 (zA hN rfl) (hk.cell rfl) q) (st_nil (from_seq (tl := [_]) zz zy rfl (zj ok48 (mcopyN_ret g) ⟨(zA hN rfl), ⟨(zA hN rfl), trivial⟩⟩ ?_)))))
 rintro _ r ⟨q, rfl⟩
 have q := zQ q
 obtain ⟨hb, _⟩ := yE hb q
 have hk := hk.keep0 q
 refine zB (a _ _ (zF fun _ a => zF fun _ d => zH (zG (zC hN rfl b) (op_nil (zA hN rfl) (zM fld71_0 (zA hN rfl) (zN one68 (zA hN rfl) (hk.cell rfl) (op_range_nil Try.underlying68 (zA hN rfl) ?_)))))))
 intro s r u t hI b
 obtain ⟨hb, _⟩ := yE hb b
 have hk := hk.keep0 b
 have e := ((((e.keep0 j).keep0 n).keep0 p).keep0 q).keep0 b
 have g := (g.keep0 q).keep0 b
 have l := (l.keep0 q).keep0 b
 refine zB (d _ _ (wp_block (loop_m (fun mz_ az_ w' => ∃ (b : Unit), mz_ = 0 ∧ (Sl az_ 2 (Value.pointer none)) ∧ (Sl az_ 3 (ptr o 0)) ∧ (Sl az_ 29 (ptr r 0)) ∧ (Below w.heap.size w w') ∧ (s.heap.size ≤ w'.heap.size) ∧ (Bx w' k 71 [(Value.map none), (.int .i64 nx), (Value.map none)]) ∧ (MapC (.int .i64) pv w' f ([] : List (Int × Nat))) ∧ (MapC (.int .u64) plv w' h ([] : List (Int × (Int × Int)))) ∧ (Bx w' o 71 [(Value.map (some f)), (.int .i64 nx), (Value.map (some h))]) ∧ (It0 w' r)) _ hN hd ⟨(), rfl, (zU hN rfl), (zU hN rfl), (zU hN rfl), hb, (Nat.le_refl _), hk, e, g, l, hI⟩ ?_)))
 rintro _ p q f j ⟨b, rfl, r, n, h, hb, s, hk, e, g, l, hI⟩
 have := hb.size
 refine zF fun _ d => zH (op_next_nil (zC f rfl h) hI (zW (zA f rfl) rfl ?_))
 refine zB (d _ _ (zF fun _ d => wp_cond_false (zA f rfl) (wp_exit (then_exit (then_exit (blk_hit (a _ _ (zF fun _ a => zH (zG (zC f rfl n) (zD (zA f rfl) (zB (a _ _ (wp_ret (ret1 rfl j (zA f rfl) ⟨_, rfl, ?_⟩))))))))))))))
 exact ⟨hb, o, _, _, rfl, by omega, by omega, by omega, by omega, l, e, g⟩


theorem hCopy_ret {base k m : Nat} {R : List (Int × By)} {F : Nat → Prop} {w : World} (h : HeapR w base k R m F) (hbase : base ≤ w.heap.size) :
    Ret Try.prog 33 #[ptr k 0] w (fun v' w' => Gr w w' F ∧ ∃ (k2 : Nat) (R2 : List (Int × By)) (F' F2 : Nat → Prop), v' = ptr k2 0 ∧ HeapR w' base k R m F' ∧ NewF w.heap.size F F' ∧ HeapR w' w.heap.size k2 R2 m F2 ∧ Dj F' F2) := by
  have h0 := h
  obtain ⟨P, nx, M, ⟨v1, v2, ps, F0, hk, hx, hA, hMs, hF⟩, hI, hn0, hnm, hMl, rfl⟩ := h
  rcases hMs with ⟨rfl, rfl, rfl, rfl⟩ | ⟨pm, mm, rfl, rfl, hb1, hb2, hne, h1, h2⟩
  · refine (HCopy_n hbase hx).mono fun v' w' q => ?_
    obtain ⟨E, c, m1, m2, rfl, hc, l1, l2, hne, hx2, g1, g2⟩ := q
    refine ⟨Gr.ofBelow E F, c, _, F, _, rfl, h0.keepG (zi (zQ E) NoB) (fun _ _ h => h), NewF.refl _ _, ⟨[], nx, [], ⟨_, _, [], NoB, hc, hx2, PgAll.nil _ _, .inr ⟨m1, m2, rfl, rfl, l1, l2, hne, g1, g2⟩, fun x => Iff.rfl⟩, hI, hn0, hnm, by simp, rfl⟩, fun x hx hf => ?_⟩
    have hlt := (h0.lt x hx).2
    rcases hf with q | q | q | q
    · omega
    · injection q with q; injection q with q; omega
    · injection q with q; injection q with q; omega
    · exact q.elim
  · obtain ⟨f1, f2, f3, f4⟩ := map_F hF
    refine (HCopy_m hbase hx hA h1 h2 hne hI).mono fun v' w' q => ?_
    obtain ⟨E, c, m1, m2, Dd, psc, M2, FK, FC, rfl, hc, l1, l2, hne2, hx2, hA2, hN, hC, g1, g2, p1, p2, hd⟩ := q
    obtain ⟨hI2, _⟩ := hI.perm p2 p1
    have hx9 := hx.keepG E (hA.notBx hx zz zz)
    have h19 := h1.keepG E (hA.notMap h1)
    have h29 := h2.keepG E (hA.notMap h2)
    have old : ∀ x, (x = k ∨ (Value.map (some pm)) = .map (some x) ∨ (Value.map (some mm)) = .map (some x) ∨ F0 x) → x < w.heap.size := fun x hx => (h0.lt x ((hF x).2 hx)).2
    refine ⟨E.mono fun x _ hx => f4 x hx, c, recs (pick P Dd) M2, _, _, rfl, ⟨P, nx, M, ⟨_, _, ps, FK, hk, hx9, hA2, .inr ⟨pm, mm, rfl, rfl, hb1, hb2, hne, h19, h29⟩, fun x => Iff.rfl⟩, hI, hn0, hnm, hMl, rfl⟩, new_F hF hN, ⟨pick P Dd, nx, M2, ⟨_, _, psc, FC, hc, hx2, hC, .inr ⟨m1, m2, rfl, rfl, l1, l2, hne2, g1, g2⟩, fun x => Iff.rfl⟩, hI2, hn0, hnm, by rw [p1.length_eq]; exact hMl, rfl⟩, fun x hx hf => ?_⟩
    rcases hx with q | q | q | q
    · have h9 := old x (.inl q)
      rcases hf with r | r | r | r
      · omega
      · injection r with r; injection r with r; omega
      · injection r with r; injection r with r; omega
      · have := (hC.lt x r).1; omega
    · have h9 := old x (.inr (.inl q))
      rcases hf with r | r | r | r
      · omega
      · injection r with r; injection r with r; omega
      · injection r with r; injection r with r; omega
      · have := (hC.lt x r).1; omega
    · have h9 := old x (.inr (.inr (.inl q)))
      rcases hf with r | r | r | r
      · omega
      · injection r with r; injection r with r; omega
      · injection r with r; injection r with r; omega
      · have := (hC.lt x r).1; omega
    · rcases hf with r | r | r | r
      · exact hA2.notBx (r ▸ hx2) zz zz q
      · injection r with r; injection r with r; exact hA2.notMap (r ▸ g1) q
      · injection r with r; injection r with r; exact hA2.notMap (r ▸ g2) q
      · exact hd x q r

end Go.Proofs.Ytdhpalioifjfbaa

namespace Go.Proofs.Ytdhpalioifjfbaa
open Go.Gx Go.RowKit

section
variable {w : World} {base k m b t e sz n : Nat} {R : List (Int × By)} {F : Nat → Prop} {cs : List Value} {v : Value} {P : PM} {M : AM} {ps : List Nat} {v1 v2 : Value} {id : Int}
theorem MapsN.notBx (h : MapsN w base P ps M v1 v2) (B : Bx w b t cs) : ¬ (v1 = .map (some b) ∨ v2 = .map (some b)) := by
  rcases h with ⟨rfl, rfl, _⟩ | ⟨pm, mm, rfl, rfl, _, _, _, h1, h2⟩
  · rintro (q | q) <;> cases q
  · rintro (q | q)
    · injection q with q; injection q with q; exact B.notMap h1 q.symm
    · injection q with q; injection q with q; exact B.notMap h2 q.symm
theorem MapsN.notOwn {base2 : Nat} (h : MapsN w base P ps M v1 v2) (O : Own w base2 e sz v n cs) {x : Nat} (hx : Bl v x) : ¬ (v1 = .map (some x) ∨ v2 = .map (some x)) := by
  rcases h with ⟨rfl, rfl, _⟩ | ⟨pm, mm, rfl, rfl, _, _, _, h1, h2⟩
  · rintro (q | q) <;> cases q
  · rintro (q | q)
    · injection q with q; injection q with q; exact O.notMap h1 (by rw [q]; exact hx)
    · injection q with q; injection q with q; exact O.notMap h2 (by rw [q]; exact hx)
theorem HeapR.notBx (h : HeapR w base k R m F) (B : Bx w b t cs) (h1 : t ≠ 71) (h2 : t ≠ 50) (h3 : t ≠ 5) : ¬ F b := fun hf => by
  obtain ⟨P, nx, M, ⟨v1, v2, ps, F0, hk, hx, hA, hMs, hF⟩, _⟩ := h
  rcases (hF b).1 hf with q | q | q | q
  · subst q; exact B.ne hx h1 rfl
  · exact hMs.notBx B (.inl q)
  · exact hMs.notBx B (.inr q)
  · exact hA.notBx B h2 h3 q
theorem HeapR.notOwn {base2 : Nat} (h : HeapR w base k R m F) (O : Own w base2 e sz v n cs) (h1 : e ≠ 71) (h2 : e ≠ 50) (h3 : e ≠ 5) : Dj (Bl v) F := fun x hx hf => by
  obtain ⟨P, nx, M, ⟨v1, v2, ps, F0, hk, hbx, hA, hMs, hF⟩, _⟩ := h
  rcases (hF x).1 hf with q | q | q | q
  · subst q; exact O.neB hbx (fun q => h1 q.symm) hx
  · exact hMs.notOwn O hx (.inl q)
  · exact hMs.notOwn O hx (.inr q)
  · exact hA.notOwn O h2 h3 x hx q
theorem hPut_good (id : Int) {r : By} {bv : Value} {Lo Bo : Nat} (hgd : badB r = false) (h : HeapR w base k R m F) (hbase : base ≤ w.heap.size) (hm : m < 1000000) (hbr : RdC w Lo Bo 1 bv r.length (r.map u8v)) (hap : ∀ x, F x → x < Lo ∨ Bo ≤ x) (hBw : Bo ≤ w.heap.size) :
    Ret Try.prog 28 #[ptr k 0, .int .u64 id, bv] w (fun v' w' => Gr w w' F ∧ v' = .int .i64 0 ∧ ∃ F', HeapR w' base k (mput R id r) (m + 1) F' ∧ NewF w.heap.size F F') :=
  (hPut_ret id h hbase hm hbr hap hBw).mono fun v' w' q => by
    unfold putO putR at q
    rw [if_neg (by rw [hgd]; decide), if_neg (by rw [hgd]; decide)] at q
    exact q
theorem el_i (f : Int → Value) {l : List Int} {e : Int} {i : Nat} (he : e = (i : Int)) (h : i < l.length) : (l.map f)[e.toNat * 1 + 0]? = some (f (l.getD i 0)) := by
  subst he; simp [List.getD_eq_getElem?_getD, h]
theorem sortI_eq {l s : List Int} (hp : l.Perm s) (hs : s.Pairwise (fun x y => x ≤ y)) : sortI l = s := by
  have tr : ∀ a b c : Int, decide (a ≤ b) = true → decide (b ≤ c) = true → decide (a ≤ c) = true := fun a b c h1 h2 => by simp only [decide_eq_true_eq] at *; omega
  have to : ∀ a b : Int, (decide (a ≤ b) || decide (b ≤ a)) = true := fun a b => by simp only [Bool.or_eq_true, decide_eq_true_eq]; omega
  refine List.Perm.eq_of_pairwise (le := fun a b => decide (a ≤ b) = true) (fun a b _ _ h1 h2 => ?_) (List.pairwise_mergeSort tr to _) (hs.imp fun h => decide_eq_true h) ((List.mergeSort_perm _ _).trans hp)
  simp only [decide_eq_true_eq] at h1 h2; omega
end
end Go.Proofs.Ytdhpalioifjfbaa

namespace Go.Proofs.Ytdhpalioifjfbaa
open Go.Gx Go.RowKit
attribute [local irreducible] wpList wpStill Code.wp Calls

theorem isNaN16_ret (m : UInt64) (w : World) : Ret Try.prog 92 #[(.int .u64 (m.toNat : Int))] w (fun v' w' => v' = .bool false ∧ w' = w) := by
 refine enter (N := 6) Try.func92 rfl rfl (by simp) fun a hN hd hA => ?_
 have b : a.tmps.getD 0 undef = (.int .u64 (m.toNat : Int)) := hA 0 (by simp)
 clear hA
 refine zF fun _ a => zH (zD rfl (zB (a _ _ (zF fun _ a => zH (zG (zC hN rfl b) (zG (zC hN rfl b) (op_neq (zA hN rfl) (zA hN rfl) (fun c => ?_) (fun c => ?_))))))))
 ·
  refine zD (zA hN rfl) (zB (a _ _ (wp_ret (ret1 rfl hd (zA hN rfl) ⟨_, rfl, ?_⟩))))
  exact (c rfl).elim
 refine zD (zA hN rfl) (zB (a _ _ (wp_ret (ret1 rfl hd (zA hN rfl) ⟨_, rfl, ?_⟩))))
 exact ⟨rfl, rfl⟩

theorem Less16_ret (x y : UInt64) (w : World) : Ret Try.prog 73 #[(.int .u64 (x.toNat : Int)), (.int .u64 (y.toNat : Int))] w (fun v' w' => v' = .bool (ltT x y) ∧ w' = w) := by
 refine enter (N := 17) Try.func73 rfl rfl (by simp) fun a hN hd hA => ?_
 have c : a.tmps.getD 0 undef = (.int .u64 (x.toNat : Int)) := hA 0 (by simp)
 have d : a.tmps.getD 1 undef = (.int .u64 (y.toNat : Int)) := hA 1 (by simp)
 clear hA
 refine zF fun _ a => zH ?_
 refine zD rfl (zB (a _ _ (zF fun _ a => zH (zG (zC hN rfl c) (ze (vs := [(.int .u64 (x.toNat : Int))]) ok92 ⟨(zA hN rfl), trivial⟩ (Ret.flip (isNaN16_ret x _)) ?_)))))
 rintro _ _ ⟨rfl, rfl⟩
 refine zG (zA hN rfl) (zR (j := 2) (dj := 7) (b := true) rfl rfl rfl (zA hN rfl) rfl rfl ?_)
 refine zR (j := 2) (dj := 7) (b := true) rfl rfl rfl (zA hN rfl) rfl rfl (zR (j := 2) (dj := 7) (b := true) rfl rfl rfl (zA hN rfl) rfl rfl (zd (zA hN rfl) rfl (zG (zA hN rfl) (zS (j := 7) (dj := 12) (b := false) rfl rfl rfl (zA hN rfl) (zG (zC hN rfl c) (zS (j := 7) (dj := 12) (b := false) rfl rfl rfl (zA hN rfl) (zG (zC hN rfl d) (zS (j := 7) (dj := 12) (b := false) rfl rfl rfl (zA hN rfl) (op_lss (zA hN rfl) (zA hN rfl) (fun e => ?_) (fun e => ?_))))))))))
 ·
  refine zd (zA hN rfl) (zA hN rfl) (zD (zA hN rfl) (zB (a _ _ (wp_ret (ret1 rfl hd (zA hN rfl) ⟨_, rfl, ?_⟩)))))
  exact ⟨congrArg Value.bool (ltT_t e).symm, rfl⟩
 refine zd (zA hN rfl) (zA hN rfl) (zD (zA hN rfl) (zB (a _ _ (wp_ret (ret1 rfl hd (zA hN rfl) ⟨_, rfl, ?_⟩)))))
 exact ⟨congrArg Value.bool (ltT_f e).symm, rfl⟩
open Go.Sort (insertionSort insOuter insInner swp siftDown heapSort heapBuild heapPop scanUp scanDown partition partLoop partitionEqual partEqLoop scanSorted partialIns bitsLen partialInsertionSort shiftDown shiftUp SortedIn reverseRange reverseLoop fixDown fixUp)
theorem insSort_ret (d : Ar) (v : Value) (n base : Nat) (a b : Nat) (w : World) (hd : d.size = n) (hn : n ≤ 4000000000000000000) (O : Own w base 57 1 v n (d.toList.map u64v)) (hab : a ≤ b) (hbn : b ≤ n) : Ret Try.prog 67 #[v, (.int .i64 ((a : Nat) : Int)), (.int .i64 ((b : Nat) : Int))] w (fun v' w' => w.grownBy w' v.ownBlock ∧ v' = .tuple #[] ∧ Own w' base 57 1 v n ((insertionSort ltT d a b).toList.map u64v)) := by
 have hb := grown_refl w v.ownBlock
 refine enter (N := 49) Try.func67 rfl rfl (by simp) fun c hN hd hA => ?_
 have f : c.tmps.getD 0 undef = v := hA 0 (by simp)
 have g : c.tmps.getD 1 undef = (.int .i64 ((a : Nat) : Int)) := hA 1 (by simp)
 have k : c.tmps.getD 2 undef = (.int .i64 ((b : Nat) : Int)) := hA 2 (by simp)
 clear hA
 refine zF fun _ c => zH (zG (zC hN rfl g) (op_add (zA hN rfl) rfl (add64 zx) (zD (zA hN rfl) (zB (c _ _ (wp_block (loop_m (fun mz_ az_ w' => ∃ (i : Nat) (dk : Ar), mz_ = b - i ∧ (Sl az_ 0 v) ∧ (Sl az_ 1 (.int .i64 ((a : Nat) : Int))) ∧ (Sl az_ 2 (.int .i64 ((b : Nat) : Int))) ∧ (Sl az_ 6 (.int .i64 ((i : Nat) : Int))) ∧ (dk.size = n) ∧ (a + 1 ≤ i ∧ (i ≤ b ∨ i = a + 1)) ∧ (insOuter ltT a b (a + 1) d = insOuter ltT a b i dk) ∧ (w.grownBy w' v.ownBlock) ∧ (w.heap.size ≤ w'.heap.size) ∧ (Own w' base 57 1 v n (dk.toList.map u64v))) _ hN hd ⟨(a + 1), _, rfl, (zL hN rfl f), (zL hN rfl g), (zL hN rfl k), (zU hN rfl).trans (congrArg (Value.int .i64) zx), (by first | assumption | (simp only [Array.size_setIfInBounds, swp_sz, siftDown_size]; assumption)), ⟨Nat.le_refl _, .inr rfl⟩, rfl, hb, (Nat.le_refl _), O⟩ ?_)))))))
 rintro _ r o f l ⟨i, dk, rfl, q, p, k, g, hdk, hi, ho, hb, s, m⟩
 have := hb.size
 refine zF fun _ c => zF fun _ r => zH (zG (zC f rfl g) (zG (zC f rfl k) (op_lss (zA f rfl) (zA f rfl) (fun s => ?_) (fun s => ?_))))
 ·
  refine zB (r _ _ (wp_cond_true (zA f rfl) (wp_skip (c _ _ (zF fun _ c => wp_block (zF fun _ r => zH (zG (zC f rfl g) (zD (zA f rfl) (zB (r _ _ (wp_block (loop_m (fun mz_ az_ w' => ∃ (jj : Nat) (dj : Ar), mz_ = (jj + 1) ∧ (Sl az_ 0 v) ∧ (Sl az_ 1 (.int .i64 ((a : Nat) : Int))) ∧ (Sl az_ 2 (.int .i64 ((b : Nat) : Int))) ∧ (Sl az_ 6 (.int .i64 ((i : Nat) : Int))) ∧ (Sl az_ 7 (.int .i64 ((jj : Nat) : Int))) ∧ (dj.size = n) ∧ (a ≤ jj ∧ jj ≤ i) ∧ (insInner ltT a i dk = insInner ltT a jj dj) ∧ (w.grownBy w' v.ownBlock) ∧ (o.heap.size ≤ w'.heap.size) ∧ (Own w' base 57 1 v n (dj.toList.map u64v))) _ f l ⟨i, _, rfl, (zL f rfl q), (zL f rfl p), (zL f rfl k), (zL f rfl g), (zU f rfl).trans (congrArg (Value.int .i64) zx), (by first | assumption | (simp only [Array.size_setIfInBounds, swp_sz, siftDown_size]; assumption)), zx, rfl, hb, (Nat.le_refl _), m⟩ ?_))))))))))))
  rintro _ y x g t ⟨jj, dj, rfl, k, q, u, s, o, hdj, hji, hj, hb, z, p⟩
  have := hb.size
  refine zF fun _ r => zF fun _ x => reg_still mixed zy ?_
  intro z y
  have := y.size
  have p := p.keep0 y
  have hb := grow_step0 hb y
  refine st_step rfl (fun _ y => zG (zC g rfl o) y) (st_step rfl (fun _ y => zG (zC g rfl q) y) ?_)
  by_cases z : ((a : Nat) : Int) < ((jj : Nat) : Int)
  ·
   refine st_step rfl (fun _ y => op_cmp (b := true) (zA g rfl) (zA g rfl) (b_gtr (decide_eq_true z)) y) (st_step rfl (fun _ y => zG (zA g rfl) y) (st_g_true (j := 3) (dj := 19) (b := true) rfl rfl rfl (zA g rfl) (st_step rfl (fun _ y => zG (zC g rfl k) y) (st_g_true (j := 3) (dj := 19) (b := true) rfl rfl rfl (zA g rfl) (st_step rfl (fun _ y => zG (zC g rfl o) y) (st_g_true (j := 3) (dj := 19) (b := true) rfl rfl rfl (zA g rfl) (st_index_rd slt62 (zA g rfl) p.rdw (zA g rfl) zx zx ?_)))))))
   intro E D C B A
   refine st_g_true (j := 3) (dj := 19) (b := true) rfl rfl rfl (zA g rfl) (st_step rfl (fun _ y => zN (v := (Value.int .u64 (dj[jj]!.toNat : Int))) one57 (zA g rfl) (by have := A 0 (.int .u64 (dj[jj]!.toNat : Int)) zz (el_arr (i := jj) zx (by first | omega | (simp only [Array.size_setIfInBounds, swp_sz, siftDown_size]; omega))); simpa using this) y) (st_g_true (j := 3) (dj := 19) (b := true) rfl rfl rfl (zA g rfl) (st_step rfl (fun _ y => zG (zC g rfl k) y) (st_g_true (j := 3) (dj := 19) (b := true) rfl rfl rfl (zA g rfl) (st_step rfl (fun _ y => zG (zC g rfl o) y) (st_g_true (j := 3) (dj := 19) (b := true) rfl rfl rfl (zA g rfl) (st_step rfl (fun _ y => op_sub (zA g rfl) rfl (sub64 zx) y) (st_g_true (j := 3) (dj := 19) (b := true) rfl rfl rfl (zA g rfl) (st_index_rd slt62 (zA g rfl) p.rdw (zA g rfl) zx zx ?_)))))))))
   intro D E C B A
   refine st_g_true (j := 3) (dj := 19) (b := true) rfl rfl rfl (zA g rfl) (st_step rfl (fun _ y => zN (v := (Value.int .u64 (dj[(jj - 1)]!.toNat : Int))) one57 (zA g rfl) (by have := A 0 (.int .u64 (dj[(jj - 1)]!.toNat : Int)) zz (el_arr (i := (jj - 1)) zx (by first | omega | (simp only [Array.size_setIfInBounds, swp_sz, siftDown_size]; omega))); simpa using this) y) (st_g_true (j := 3) (dj := 19) (b := true) rfl rfl rfl (zA g rfl) (st_fn (vs := [(.int .u64 (dj[jj]!.toNat : Int)), (.int .u64 (dj[(jj - 1)]!.toNat : Int))]) ok73 (⟨(zA g rfl), ⟨(zA g rfl), trivial⟩⟩) (Less16_ret dj[jj]! dj[(jj - 1)]! _) (st_step rfl (fun _ y => zc (zA g rfl) (zA g rfl) y) (st_nil (x _ _ (wp_cond_split (zA g rfl) (fun B => ?_) (fun B => ?_))))))))
   ·
    refine wp_skip (r _ _ (zF fun _ r => wp_block (reg_mid (e := 57) (sz := 1) (base := base) (n := n) (v := v) (Φ := phiL [(fun uz _ => uz = v), (fun uz _ => uz = (.int .i64 ((jj : Nat) : Int))), (fun uz _ => uz = v), (fun uz _ => uz = (.int .i64 ((jj : Nat) : Int))), (fun uz _ => uz = (.int .i64 (((jj : Nat) : Int) - 1))), (fun uz _ => uz = v), (fun uz _ => uz = (.int .i64 ((jj : Nat) : Int))), (fun uz _ => uz = (.int .i64 (((jj : Nat) : Int) - 1))), (fun uz _ => ∃ bz oz, uz = ptr bz oz ∧ AtV v (jj - 1) bz oz), (fun uz _ => uz = (.int .u64 (dj[(jj - 1)]!.toNat : Int))), (fun uz _ => uz = v), (fun uz _ => uz = (.int .i64 ((jj : Nat) : Int))), (fun uz _ => ∃ bz oz, uz = ptr bz oz ∧ AtV v jj bz oz), (fun uz _ => uz = (.int .u64 (dj[jj]!.toNat : Int))), (fun uz _ => ∃ bz oz, uz = ptr bz oz ∧ AtV v jj bz oz), (fun _ _ => True), (fun uz _ => ∃ bz oz, uz = ptr bz oz ∧ AtV v (jj - 1) bz oz), (fun _ _ => True)]) [15, 17] [(dj.toList.map u64v), ((dj.setIfInBounds jj dj[(jj - 1)]!).toList.map u64v), (((dj.setIfInBounds jj dj[(jj - 1)]!).setIfInBounds (jj - 1) dj[jj]!).toList.map u64v)] mixed zy zy zy zy g p (StL.get (StL.eq (StL.eq (StL.eq (StL.eq (StL.eq (StL.eq (StL.eq (StL.eq (StL.at (StL.eq (StL.eq (StL.eq (StL.at (StL.eq (StL.at (StL.cons (fun _ _ _ _ h => h) (StL.at (StL.cons (fun _ _ _ _ h => h) (StL.nil _)))))))))))))))))))) (ObRs.get (ObRs.cons ?_ (ObRs.cons ?_ (ObRs.cons ?_ (ObRs.cons ?_ (ObRs.cons ?_ (ObRs.cons ?_ (ObRs.cons ?_ (ObRs.cons ?_ (ObRs.cons ?_ (ObRs.cons ?_ (ObRs.cons ?_ (ObRs.cons ?_ (ObRs.cons ?_ (ObRs.cons ?_ (ObRs.cons ?_ (ObRs.pass rfl (ObRs.cons ?_ (ObRs.pass rfl (ObRs.nil)))))))))))))))))))) (ObWs.get (ObWs.cons ?_ (ObWs.cons ?_ (ObWs.nil)))) ?_)))
    ·
     intro aA wA cA hNA hRA hckA hOA hbsA hdpA
     have A := (hbsA 0 rfl).trans (zL g rfl k)
     clear hbsA hdpA
     refine zG (zC hNA rfl A) ?_
     exact obR_end rfl rfl (grown_refl _ _)
    ·
     intro aA wA cA hNA hRA hckA hOA hbsA hdpA
     have C := (hbsA 7 rfl).trans (zL g rfl o)
     clear hbsA hdpA
     refine zG (zC hNA rfl C) ?_
     exact obR_end rfl rfl (grown_refl _ _)
    ·
     intro aA wA cA hNA hRA hckA hOA hbsA hdpA
     have A := (hbsA 0 rfl).trans (zL g rfl k)
     clear hbsA hdpA
     refine zG (zC hNA rfl A) ?_
     exact obR_end rfl rfl (grown_refl _ _)
    ·
     intro aA wA cA hNA hRA hckA hOA hbsA hdpA
     have C := (hbsA 7 rfl).trans (zL g rfl o)
     clear hbsA hdpA
     refine zG (zC hNA rfl C) ?_
     exact obR_end rfl rfl (grown_refl _ _)
    ·
     intro aA wA cA hNA hRA hckA hOA hbsA hdpA
     have D : Sl aA 36 (.int .i64 ((jj : Nat) : Int)) := hdpA 3 _ 36 zy rfl rfl
     clear hbsA hdpA
     refine op_sub (zC hNA rfl D) rfl (sub64 zx) ?_
     exact obR_end rfl rfl (grown_refl _ _)
    ·
     intro aA wA cA hNA hRA hckA hOA hbsA hdpA
     have A := (hbsA 0 rfl).trans (zL g rfl k)
     clear hbsA hdpA
     refine zG (zC hNA rfl A) ?_
     exact obR_end rfl rfl (grown_refl _ _)
    ·
     intro aA wA cA hNA hRA hckA hOA hbsA hdpA
     have C := (hbsA 7 rfl).trans (zL g rfl o)
     clear hbsA hdpA
     refine zG (zC hNA rfl C) ?_
     exact obR_end rfl rfl (grown_refl _ _)
    ·
     intro aA wA cA hNA hRA hckA hOA hbsA hdpA
     have D : Sl aA 39 (.int .i64 ((jj : Nat) : Int)) := hdpA 6 _ 39 zy rfl rfl
     clear hbsA hdpA
     refine op_sub (zC hNA rfl D) rfl (sub64 zx) ?_
     exact obR_end rfl rfl (grown_refl _ _)
    ·
     intro aA wA cA hNA hRA hckA hOA hbsA hdpA
     have D : Sl aA 38 v := hdpA 5 _ 38 zy rfl rfl
     have E : Sl aA 40 (.int .i64 (((jj : Nat) : Int) - 1)) := hdpA 7 _ 40 zy rfl rfl
     clear hbsA hdpA
     refine op_index_own (i := (jj - 1)) slt62 (zC hNA rfl D) hOA (zC hNA rfl E) zx zx ?_
     intro b_ o_ _ hA_
     exact obR_end rfl ⟨b_, o_, rfl, by simpa using hA_⟩ (grown_refl _ _)
    ·
     intro aA wA cA hNA hRA hckA hOA hbsA hdpA
     obtain ⟨G, F, E, D⟩ := hdpA 8 _ 41 zy rfl rfl
     clear hbsA hdpA
     obtain rfl : cA = 0 := Nat.le_zero.1 (hckA 0 15 rfl zy)
     have hOA : Own wA base 57 1 v n (dj.toList.map u64v) := hOA
     refine zN (v := (Value.int .u64 (dj[(jj - 1)]!.toNat : Int))) one57 (zC hNA rfl E) (by have := hOA.cellAt D 0 _ (el_at (i := (jj - 1)) (by first | omega | (simp only [Array.size_setIfInBounds, swp_sz, siftDown_size]; omega))); simpa using this) ?_
     exact obR_end rfl rfl (grown_refl _ _)
    ·
     intro aA wA cA hNA hRA hckA hOA hbsA hdpA
     have A := (hbsA 0 rfl).trans (zL g rfl k)
     clear hbsA hdpA
     refine zG (zC hNA rfl A) ?_
     exact obR_end rfl rfl (grown_refl _ _)
    ·
     intro aA wA cA hNA hRA hckA hOA hbsA hdpA
     have C := (hbsA 7 rfl).trans (zL g rfl o)
     clear hbsA hdpA
     refine zG (zC hNA rfl C) ?_
     exact obR_end rfl rfl (grown_refl _ _)
    ·
     intro aA wA cA hNA hRA hckA hOA hbsA hdpA
     have A : Sl aA 43 v := hdpA 10 _ 43 zy rfl rfl
     have C : Sl aA 44 (.int .i64 ((jj : Nat) : Int)) := hdpA 11 _ 44 zy rfl rfl
     clear hbsA hdpA
     refine op_index_own (i := jj) slt62 (zC hNA rfl A) hOA (zC hNA rfl C) zx zx ?_
     intro b_ o_ _ hA_
     exact obR_end rfl ⟨b_, o_, rfl, by simpa using hA_⟩ (grown_refl _ _)
    ·
     intro aA wA cA hNA hRA hckA hOA hbsA hdpA
     obtain ⟨D, E, A, C⟩ := hdpA 12 _ 45 zy rfl rfl
     clear hbsA hdpA
     obtain rfl : cA = 0 := Nat.le_zero.1 (hckA 0 15 rfl zy)
     have hOA : Own wA base 57 1 v n (dj.toList.map u64v) := hOA
     refine zN (v := (Value.int .u64 (dj[jj]!.toNat : Int))) one57 (zC hNA rfl A) (by have := hOA.cellAt C 0 _ (el_at (i := jj) (by first | omega | (simp only [Array.size_setIfInBounds, swp_sz, siftDown_size]; omega))); simpa using this) ?_
     exact obR_end rfl rfl (grown_refl _ _)
    ·
     intro aA wA cA hNA hRA hckA hOA hbsA hdpA
     have A : Sl aA 33 v := hdpA 0 _ 33 zy rfl rfl
     have C : Sl aA 34 (.int .i64 ((jj : Nat) : Int)) := hdpA 1 _ 34 zy rfl rfl
     clear hbsA hdpA
     refine op_index_own (i := jj) slt62 (zC hNA rfl A) hOA (zC hNA rfl C) zx zx ?_
     intro b_ o_ _ hA_
     exact obR_end rfl ⟨b_, o_, rfl, by simpa using hA_⟩ (grown_refl _ _)
    ·
     intro aA wA cA hNA hRA hckA hOA hbsA hdpA
     have A : Sl aA 35 v := hdpA 2 _ 35 zy rfl rfl
     have C : Sl aA 37 (.int .i64 (((jj : Nat) : Int) - 1)) := hdpA 4 _ 37 zy rfl rfl
     clear hbsA hdpA
     refine op_index_own (i := (jj - 1)) slt62 (zC hNA rfl A) hOA (zC hNA rfl C) zx zx ?_
     intro b_ o_ _ hA_
     exact obR_end rfl ⟨b_, o_, rfl, by simpa using hA_⟩ (grown_refl _ _)
    ·
     intro o_ ho_; obtain rfl := zE ho_; intro aA wA hNA hRA hbsA hdpA hOA
     obtain ⟨E, D, C, A⟩ := hdpA 14 _ 47 zy rfl rfl
     have D : Sl aA 42 (.int .u64 (dj[(jj - 1)]!.toNat : Int)) := hdpA 9 _ 42 zy rfl rfl
     clear hbsA hdpA
     have hOA : Own wA base 57 1 v n (dj.toList.map u64v) := hOA
     refine op_store_own (vs := [(.int .u64 (dj[(jj - 1)]!.toNat : Int))]) size57 (zC hNA rfl C) (zC hNA rfl D) rfl rfl rfl hOA A (by have := hOA.1; simp at this ⊢; omega) ?_
     intro w_ hO_ E_
     exact obW_end rfl (hO_.cast rfl (set_arr (by first | omega | (simp only [Array.size_setIfInBounds, swp_sz, siftDown_size]; omega)))) E_
    ·
     intro o_ ho_; obtain rfl := zE ho_; intro aA wA hNA hRA hbsA hdpA hOA
     obtain ⟨D, E, C, A⟩ := hdpA 16 _ 48 zy rfl rfl
     have D : Sl aA 46 (.int .u64 (dj[jj]!.toNat : Int)) := hdpA 13 _ 46 zy rfl rfl
     clear hbsA hdpA
     have hOA : Own wA base 57 1 v n ((dj.setIfInBounds jj dj[(jj - 1)]!).toList.map u64v) := hOA
     refine op_store_own (vs := [(.int .u64 (dj[jj]!.toNat : Int))]) size57 (zC hNA rfl C) (zC hNA rfl D) rfl rfl rfl hOA A (by have := hOA.1; simp at this ⊢; omega) ?_
     intro w_ hO_ E_
     exact obW_end rfl (hO_.cast rfl (set_arr (by first | omega | (simp only [Array.size_setIfInBounds, swp_sz, siftDown_size]; omega)))) E_
    intro I H A D C G E F
    have D := D.trans t
    have I := (C 0 rfl).trans (zL g rfl k)
    have J := (C 1 rfl).trans (zL g rfl q)
    have K := (C 2 rfl).trans (zL g rfl u)
    have L := (C 6 rfl).trans (zL g rfl s)
    have M := (C 7 rfl).trans (zL g rfl o)
    clear C G
    have E : Own H base 57 1 v n (((dj.setIfInBounds jj dj[(jj - 1)]!).setIfInBounds (jj - 1) dj[jj]!).toList.map u64v) := E
    have := F.size
    have hb := grow_stepX hb F rfl
    refine r _ _ (zH (zG (zC A rfl M) (op_sub (zA A rfl) rfl (sub64 zx) (zD (zA A rfl) (zB ?_)))))
    -- round 12T 18T 30T
    exact zg _ A D ⟨(jj - 1), _, rfl, (zL A rfl I), (zL A rfl J), (zL A rfl K), (zL A rfl L), (zU A rfl).trans (congrArg (Value.int .i64) zx), (by first | assumption | (simp only [Array.size_setIfInBounds, swp_sz, siftDown_size]; assumption)), zx, (hj.trans (insInner_go zx B)), hb, zx, E⟩ zx
   refine wp_exit (then_exit (then_exit (blk_hit (c _ _ (zH (zG (zC g rfl s) (op_add (zA g rfl) rfl (add64 zx) (zD (zA g rfl) (zB ?_)))))))))
   -- round 12T 18T 30F
   exact zg _ g t ⟨i + 1, _, rfl, (zL g rfl k), (zL g rfl q), (zL g rfl u), (zU g rfl).trans (congrArg (Value.int .i64) zx), (by first | assumption | (simp only [Array.size_setIfInBounds, swp_sz, siftDown_size]; assumption)), zx, (ho.trans ((insOuter_go zx).trans (congrArg (insOuter ltT a b (i + 1)) (hj.trans (insInner_stop (.inr B)))))), hb, zx, p⟩ zx
  refine st_step rfl (fun _ y => op_cmp (b := false) (zA g rfl) (zA g rfl) (b_gtr (decide_eq_false z)) y) (st_step rfl (fun _ y => zG (zA g rfl) y) (st_g_false (j := 3) (dj := 19) (b := true) rfl rfl rfl (zA g rfl) rfl rfl (st_g_false (j := 3) (dj := 19) (b := true) rfl rfl rfl (zA g rfl) rfl rfl (st_g_false (j := 3) (dj := 19) (b := true) rfl rfl rfl (zA g rfl) rfl rfl (st_g_false (j := 3) (dj := 19) (b := true) rfl rfl rfl (zA g rfl) rfl rfl (st_g_false (j := 3) (dj := 19) (b := true) rfl rfl rfl (zA g rfl) rfl rfl (st_g_false (j := 3) (dj := 19) (b := true) rfl rfl rfl (zA g rfl) rfl rfl (st_g_false (j := 3) (dj := 19) (b := true) rfl rfl rfl (zA g rfl) rfl rfl (st_g_false (j := 3) (dj := 19) (b := true) rfl rfl rfl (zA g rfl) rfl rfl ?_)))))))))
  refine st_g_false (j := 3) (dj := 19) (b := true) rfl rfl rfl (zA g rfl) rfl rfl (st_g_false (j := 3) (dj := 19) (b := true) rfl rfl rfl (zA g rfl) rfl rfl (st_step rfl (fun _ y => zd (zA g rfl) rfl y) (st_nil (x _ _ (wp_cond_false (zA g rfl) (wp_exit (then_exit (then_exit (blk_hit (c _ _ (zH (zG (zC g rfl s) (op_add (zA g rfl) rfl (add64 zx) (zD (zA g rfl) (zB ?_)))))))))))))))
  -- round 12T 18F
  exact zg _ g t ⟨i + 1, _, rfl, (zL g rfl k), (zL g rfl q), (zL g rfl u), (zU g rfl).trans (congrArg (Value.int .i64) zx), (by first | assumption | (simp only [Array.size_setIfInBounds, swp_sz, siftDown_size]; assumption)), zx, (ho.trans ((insOuter_go zx).trans (congrArg (insOuter ltT a b (i + 1)) (hj.trans (insInner_stop (.inl zx)))))), hb, zx, p⟩ zx
 refine zB (r _ _ (wp_cond_false (zA f rfl) (wp_exit (then_exit (then_exit (blk_hit (end_ret (ret0 rfl l  ⟨_, rfl, ?_⟩))))))))
 exact ⟨hb, rfl, m.cast rfl (by rw [show insertionSort ltT d a b = insOuter ltT a b (a + 1) d from rfl, ho, insOuter_stop zx])⟩
open Go.Sort (insertionSort insOuter insInner swp siftDown heapSort heapBuild heapPop scanUp scanDown partition partLoop partitionEqual partEqLoop scanSorted partialIns bitsLen partialInsertionSort shiftDown shiftUp SortedIn reverseRange reverseLoop fixDown fixUp)
set_option maxHeartbeats 2000000 in
theorem siftDownW_ret (d : Ar) (v : Value) (n base : Nat) (lo hi fi : Nat) (w : World) (hd : d.size = n) (hn : n ≤ 4000000000000000000) (O : Own w base 57 1 v n (d.toList.map u64v)) (hfh : fi + hi ≤ n) (hlo : lo ≤ n) : Ret Try.prog 87 #[v, (.int .i64 ((lo : Nat) : Int)), (.int .i64 ((hi : Nat) : Int)), (.int .i64 ((fi : Nat) : Int))] w (fun v' w' => w.grownBy w' v.ownBlock ∧ v' = .tuple #[] ∧ Own w' base 57 1 v n ((siftDown ltT hi fi lo d).toList.map u64v)) := by
 have hb := grown_refl w v.ownBlock
 refine enter (N := 76) Try.func87 rfl rfl (by simp) fun a hN hd hA => ?_
 have c : a.tmps.getD 0 undef = v := hA 0 (by simp)
 have f : a.tmps.getD 1 undef = (.int .i64 ((lo : Nat) : Int)) := hA 1 (by simp)
 have g : a.tmps.getD 2 undef = (.int .i64 ((hi : Nat) : Int)) := hA 2 (by simp)
 have k : a.tmps.getD 3 undef = (.int .i64 ((fi : Nat) : Int)) := hA 3 (by simp)
 clear hA
 refine zF fun _ a => zH (zG (zC hN rfl f) (zD (zA hN rfl) (zB (a _ _ (wp_block (loop_m (fun mz_ az_ w' => ∃ (rt : Nat) (dk : Ar), mz_ = (hi + lo + 1 - rt) ∧ (Sl az_ 0 v) ∧ (Sl az_ 2 (.int .i64 ((hi : Nat) : Int))) ∧ (Sl az_ 3 (.int .i64 ((fi : Nat) : Int))) ∧ (Sl az_ 8 (.int .i64 ((rt : Nat) : Int))) ∧ (dk.size = n) ∧ (rt < hi ∨ rt = lo) ∧ (siftDown ltT hi fi lo d = siftDown ltT hi fi rt dk) ∧ (w.grownBy w' v.ownBlock) ∧ (w.heap.size ≤ w'.heap.size) ∧ (Own w' base 57 1 v n (dk.toList.map u64v))) _ hN hd ⟨lo, _, rfl, (zL hN rfl c), (zL hN rfl g), (zL hN rfl k), (zU hN rfl).trans (congrArg (Value.int .i64) zx), (by first | assumption | (simp only [Array.size_setIfInBounds, swp_sz, siftDown_size]; assumption)), .inr rfl, rfl, hb, (Nat.le_refl _), O⟩ ?_))))))
 rintro _ q p c m ⟨rt, dk, rfl, k, o, f, l, hdk, hrt, hs, hb, r, g⟩
 have := hb.size
 refine wp_block (zF fun _ a => zH (zG (zC c rfl l) ?_))
 refine op_mul rfl (zA c rfl) (mul64 zx) (op_add (zA c rfl) rfl (add64 zx) (zD (zA c rfl) (zB (a _ _ (zF fun _ a => zF fun _ p => zH (zG (zA c rfl) (zG (zC c rfl o) (op_geq (zA c rfl) (zA c rfl) (fun q => ?_) (fun q => ?_)))))))))
 ·
  refine zB (p _ _ (wp_cond_true (zA c rfl) (wp_exit (then_exit (blk_miss zz (then_exit (blk_hit (end_ret (ret0 rfl m  ⟨_, rfl, ?_⟩)))))))))
  exact ⟨hb, rfl, g.cast rfl (by rw [hs, siftDown_stop zx])⟩
 refine zB (p _ _ (wp_cond_false (zA c rfl) (wp_skip (a _ _ (zF fun _ a => zF fun _ p => reg_still mixed zy ?_)))))
 intro r q
 have := q.size
 have g := g.keep0 q
 have hb := grow_step0 hb q
 refine st_step rfl (fun _ q => zG (zA c rfl) q) (st_step rfl (fun _ q => op_add (zA c rfl) rfl (add64 zx) q) (st_step rfl (fun _ q => zG (zC c rfl o) q) ?_))
 by_cases r : (((2 * ((rt : Nat) : Int)) + 1) + 1) < ((hi : Nat) : Int)
 ·
  refine st_step rfl (fun _ q => op_cmp (b := true) (zA c rfl) (zA c rfl) (b_lss (decide_eq_true r)) q) (st_step rfl (fun _ q => zG (zA c rfl) q) ?_)
  refine st_g_true (j := 4) (dj := 21) (b := true) rfl rfl rfl (zA c rfl) (st_step rfl (fun _ q => zG (zC c rfl k) q) (st_g_true (j := 4) (dj := 21) (b := true) rfl rfl rfl (zA c rfl) (st_step rfl (fun _ q => zG (zC c rfl f) q) (st_g_true (j := 4) (dj := 21) (b := true) rfl rfl rfl (zA c rfl) (st_step rfl (fun _ q => zG (zA c rfl) q) (st_g_true (j := 4) (dj := 21) (b := true) rfl rfl rfl (zA c rfl) (st_step rfl (fun _ q => op_add (zA c rfl) (zA c rfl) (add64 zx) q) (st_g_true (j := 4) (dj := 21) (b := true) rfl rfl rfl (zA c rfl) (st_index_rd slt62 (zA c rfl) g.rdw (zA c rfl) zx zx ?_)))))))))
  intro x t u y s
  refine st_g_true (j := 4) (dj := 21) (b := true) rfl rfl rfl (zA c rfl) (st_step rfl (fun _ q => zN (v := (Value.int .u64 (dk[(fi + ((2 * rt) + 1))]!.toNat : Int))) one57 (zA c rfl) (by have := s 0 (.int .u64 (dk[(fi + ((2 * rt) + 1))]!.toNat : Int)) zz (el_arr (i := (fi + ((2 * rt) + 1))) zx (by first | omega | (simp only [Array.size_setIfInBounds, swp_sz, siftDown_size]; omega))); simpa using this) q) (st_g_true (j := 4) (dj := 21) (b := true) rfl rfl rfl (zA c rfl) (st_step rfl (fun _ q => zG (zC c rfl k) q) ?_)))
  refine st_g_true (j := 4) (dj := 21) (b := true) rfl rfl rfl (zA c rfl) (st_step rfl (fun _ q => zG (zC c rfl f) q) (st_g_true (j := 4) (dj := 21) (b := true) rfl rfl rfl (zA c rfl) (st_step rfl (fun _ q => zG (zA c rfl) q) (st_g_true (j := 4) (dj := 21) (b := true) rfl rfl rfl (zA c rfl) (st_step rfl (fun _ q => op_add (zA c rfl) (zA c rfl) (add64 zx) q) (st_g_true (j := 4) (dj := 21) (b := true) rfl rfl rfl (zA c rfl) (st_step rfl (fun _ q => op_add (zA c rfl) rfl (add64 zx) q) (st_g_true (j := 4) (dj := 21) (b := true) rfl rfl rfl (zA c rfl) (st_index_rd slt62 (zA c rfl) g.rdw (zA c rfl) zx zx ?_)))))))))
  intro u x y t s
  refine st_g_true (j := 4) (dj := 21) (b := true) rfl rfl rfl (zA c rfl) (st_step rfl (fun _ q => zN (v := (Value.int .u64 (dk[((fi + ((2 * rt) + 1)) + 1)]!.toNat : Int))) one57 (zA c rfl) (by have := s 0 (.int .u64 (dk[((fi + ((2 * rt) + 1)) + 1)]!.toNat : Int)) zz (el_arr (i := ((fi + ((2 * rt) + 1)) + 1)) zx (by first | omega | (simp only [Array.size_setIfInBounds, swp_sz, siftDown_size]; omega))); simpa using this) q) (st_g_true (j := 4) (dj := 21) (b := true) rfl rfl rfl (zA c rfl) (st_fn (vs := [(.int .u64 (dk[(fi + ((2 * rt) + 1))]!.toNat : Int)), (.int .u64 (dk[((fi + ((2 * rt) + 1)) + 1)]!.toNat : Int))]) ok73 (⟨(zA c rfl), ⟨(zA c rfl), trivial⟩⟩) (Less16_ret dk[(fi + ((2 * rt) + 1))]! dk[((fi + ((2 * rt) + 1)) + 1)]! _) (st_step rfl (fun _ q => zc (zA c rfl) (zA c rfl) q) (st_nil (p _ _ (wp_cond_split (zA c rfl) (fun t => ?_) (fun t => ?_))))))))
  ·
   refine zH (zG (zA c rfl) (op_add (zA c rfl) rfl (add64 zx) (zD (zA c rfl) (zB (a _ _ (zF fun _ a => zF fun _ p => reg_still mixed zy ?_))))))
   intro u s
   have := s.size
   have g := g.keep0 s
   have hb := grow_step0 hb s
   refine st_step rfl (fun _ q => zG (zC c rfl k) q) (st_step rfl (fun _ q => zG (zC c rfl f) q) (st_step rfl (fun _ q => zG (zC c rfl l) q) (st_step rfl (fun _ q => op_add (zA c rfl) (zA c rfl) (add64 zx) q) (st_index_rd slt62 (zA c rfl) g.rdw (zA c rfl) zx zx ?_))))
   intro x z y u s
   refine st_step rfl (fun _ q => zN (v := (Value.int .u64 (dk[(fi + rt)]!.toNat : Int))) one57 (zA c rfl) (by have := s 0 (.int .u64 (dk[(fi + rt)]!.toNat : Int)) zz (el_arr (i := (fi + rt)) zx (by first | omega | (simp only [Array.size_setIfInBounds, swp_sz, siftDown_size]; omega))); simpa using this) q) (st_step rfl (fun _ q => zG (zC c rfl k) q) (st_step rfl (fun _ q => zG (zC c rfl f) q) (st_step rfl (fun _ q => zG (zA c rfl) q) (st_step rfl (fun _ q => op_add (zA c rfl) (zA c rfl) (add64 zx) q) (st_index_rd slt62 (zA c rfl) g.rdw (zA c rfl) zx zx ?_)))))
   intro x z y u s
   refine st_step rfl (fun _ q => zN (v := (Value.int .u64 (dk[(fi + (((2 * rt) + 1) + 1))]!.toNat : Int))) one57 (zA c rfl) (by have := s 0 (.int .u64 (dk[(fi + (((2 * rt) + 1) + 1))]!.toNat : Int)) zz (el_arr (i := (fi + (((2 * rt) + 1) + 1))) zx (by first | omega | (simp only [Array.size_setIfInBounds, swp_sz, siftDown_size]; omega))); simpa using this) q) (st_fn (vs := [(.int .u64 (dk[(fi + rt)]!.toNat : Int)), (.int .u64 (dk[(fi + (((2 * rt) + 1) + 1))]!.toNat : Int))]) ok73 (⟨(zA c rfl), ⟨(zA c rfl), trivial⟩⟩) (Less16_ret dk[(fi + rt)]! dk[(fi + (((2 * rt) + 1) + 1))]! _) (st_step rfl (fun _ q => op_not (zA c rfl) q) (st_nil (p _ _ (wp_cond_split (zA c rfl) (fun u => ?_) (fun u => ?_))))))
   ·
    refine wp_ret (zO (zb (zO (zb ( (ret0 rfl m  ⟨_, rfl, ?_⟩))))))
    have hch : childS hi fi rt dk = 2 * rt + 2 := childS_t zx t
    exact ⟨hb, rfl, g.cast rfl (by rw [hs, siftDown_ret zx (by rw [hch]; simpa [Nat.add_assoc] using u)])⟩
   refine wp_skip (a _ _ (zF fun _ a => ?_))
   refine reg_mid (e := 57) (sz := 1) (base := base) (n := n) (v := v) (Φ := phiL [(fun uz _ => uz = v), (fun uz _ => uz = (.int .i64 ((fi : Nat) : Int))), (fun uz _ => uz = (.int .i64 ((rt : Nat) : Int))), (fun uz _ => uz = (.int .i64 (((fi : Nat) : Int) + ((rt : Nat) : Int)))), (fun uz _ => uz = v), (fun uz _ => uz = (.int .i64 ((fi : Nat) : Int))), (fun uz _ => uz = (.int .i64 (((2 * ((rt : Nat) : Int)) + 1) + 1))), (fun uz _ => uz = (.int .i64 (((fi : Nat) : Int) + (((2 * ((rt : Nat) : Int)) + 1) + 1)))), (fun uz _ => uz = v), (fun uz _ => uz = (.int .i64 ((fi : Nat) : Int))), (fun uz _ => uz = (.int .i64 (((2 * ((rt : Nat) : Int)) + 1) + 1))), (fun uz _ => uz = (.int .i64 (((fi : Nat) : Int) + (((2 * ((rt : Nat) : Int)) + 1) + 1)))), (fun uz _ => ∃ bz oz, uz = ptr bz oz ∧ AtV v (fi + (((2 * rt) + 1) + 1)) bz oz), (fun uz _ => uz = (.int .u64 (dk[(fi + (((2 * rt) + 1) + 1))]!.toNat : Int))), (fun uz _ => uz = v), (fun uz _ => uz = (.int .i64 ((fi : Nat) : Int))), (fun uz _ => uz = (.int .i64 ((rt : Nat) : Int))), (fun uz _ => uz = (.int .i64 (((fi : Nat) : Int) + ((rt : Nat) : Int)))), (fun uz _ => ∃ bz oz, uz = ptr bz oz ∧ AtV v (fi + rt) bz oz), (fun uz _ => uz = (.int .u64 (dk[(fi + rt)]!.toNat : Int))), (fun uz _ => ∃ bz oz, uz = ptr bz oz ∧ AtV v (fi + rt) bz oz), (fun _ _ => True), (fun uz _ => ∃ bz oz, uz = ptr bz oz ∧ AtV v (fi + (((2 * rt) + 1) + 1)) bz oz), (fun _ _ => True)]) [21, 23] [(dk.toList.map u64v), ((dk.setIfInBounds (fi + rt) dk[(fi + (((2 * rt) + 1) + 1))]!).toList.map u64v), (((dk.setIfInBounds (fi + rt) dk[(fi + (((2 * rt) + 1) + 1))]!).setIfInBounds (fi + (((2 * rt) + 1) + 1)) dk[(fi + rt)]!).toList.map u64v)] mixed zy zy zy zy c g (StL.get (StL.eq (StL.eq (StL.eq (StL.eq (StL.eq (StL.eq (StL.eq (StL.eq (StL.eq (StL.eq (StL.eq (StL.eq (StL.at (StL.eq (StL.eq (StL.eq (StL.eq (StL.eq (StL.at (StL.eq (StL.at (StL.cons (fun _ _ _ _ h => h) (StL.at (StL.cons (fun _ _ _ _ h => h) (StL.nil _)))))))))))))))))))))))))) (ObRs.get (ObRs.cons ?_ (ObRs.cons ?_ (ObRs.cons ?_ (ObRs.cons ?_ (ObRs.cons ?_ (ObRs.cons ?_ (ObRs.cons ?_ (ObRs.cons ?_ (ObRs.cons ?_ (ObRs.cons ?_ (ObRs.cons ?_ (ObRs.cons ?_ (ObRs.cons ?_ (ObRs.cons ?_ (ObRs.cons ?_ (ObRs.cons ?_ (ObRs.cons ?_ (ObRs.cons ?_ (ObRs.cons ?_ (ObRs.cons ?_ (ObRs.cons ?_ (ObRs.pass rfl (ObRs.cons ?_ (ObRs.pass rfl (ObRs.nil)))))))))))))))))))))))))) (ObWs.get (ObWs.cons ?_ (ObWs.cons ?_ (ObWs.nil)))) ?_
   ·
    intro aA wA cA hNA hRA hckA hOA hbsA hdpA
    have s := (hbsA 0 rfl).trans (zL c rfl k)
    clear hbsA hdpA
    refine zG (zC hNA rfl s) ?_
    exact obR_end rfl rfl (grown_refl _ _)
   ·
    intro aA wA cA hNA hRA hckA hOA hbsA hdpA
    have x := (hbsA 3 rfl).trans (zL c rfl f)
    clear hbsA hdpA
    refine zG (zC hNA rfl x) ?_
    exact obR_end rfl rfl (grown_refl _ _)
   ·
    intro aA wA cA hNA hRA hckA hOA hbsA hdpA
    have y := (hbsA 8 rfl).trans (zL c rfl l)
    clear hbsA hdpA
    refine zG (zC hNA rfl y) ?_
    exact obR_end rfl rfl (grown_refl _ _)
   ·
    intro aA wA cA hNA hRA hckA hOA hbsA hdpA
    have z : Sl aA 54 (.int .i64 ((fi : Nat) : Int)) := hdpA 1 _ 54 zy rfl rfl
    have A : Sl aA 55 (.int .i64 ((rt : Nat) : Int)) := hdpA 2 _ 55 zy rfl rfl
    clear hbsA hdpA
    refine op_add (zC hNA rfl z) (zC hNA rfl A) (add64 zx) ?_
    exact obR_end rfl rfl (grown_refl _ _)
   ·
    intro aA wA cA hNA hRA hckA hOA hbsA hdpA
    have s := (hbsA 0 rfl).trans (zL c rfl k)
    clear hbsA hdpA
    refine zG (zC hNA rfl s) ?_
    exact obR_end rfl rfl (grown_refl _ _)
   ·
    intro aA wA cA hNA hRA hckA hOA hbsA hdpA
    have x := (hbsA 3 rfl).trans (zL c rfl f)
    clear hbsA hdpA
    refine zG (zC hNA rfl x) ?_
    exact obR_end rfl rfl (grown_refl _ _)
   ·
    intro aA wA cA hNA hRA hckA hOA hbsA hdpA
    have B := (hbsA 9 rfl).trans (zU c rfl)
    clear hbsA hdpA
    refine zG (zC hNA rfl B) ?_
    exact obR_end rfl rfl (grown_refl _ _)
   ·
    intro aA wA cA hNA hRA hckA hOA hbsA hdpA
    have C : Sl aA 58 (.int .i64 ((fi : Nat) : Int)) := hdpA 5 _ 58 zy rfl rfl
    have D : Sl aA 59 (.int .i64 (((2 * ((rt : Nat) : Int)) + 1) + 1)) := hdpA 6 _ 59 zy rfl rfl
    clear hbsA hdpA
    refine op_add (zC hNA rfl C) (zC hNA rfl D) (add64 zx) ?_
    exact obR_end rfl rfl (grown_refl _ _)
   ·
    intro aA wA cA hNA hRA hckA hOA hbsA hdpA
    have s := (hbsA 0 rfl).trans (zL c rfl k)
    clear hbsA hdpA
    refine zG (zC hNA rfl s) ?_
    exact obR_end rfl rfl (grown_refl _ _)
   ·
    intro aA wA cA hNA hRA hckA hOA hbsA hdpA
    have x := (hbsA 3 rfl).trans (zL c rfl f)
    clear hbsA hdpA
    refine zG (zC hNA rfl x) ?_
    exact obR_end rfl rfl (grown_refl _ _)
   ·
    intro aA wA cA hNA hRA hckA hOA hbsA hdpA
    have B := (hbsA 9 rfl).trans (zU c rfl)
    clear hbsA hdpA
    refine zG (zC hNA rfl B) ?_
    exact obR_end rfl rfl (grown_refl _ _)
   ·
    intro aA wA cA hNA hRA hckA hOA hbsA hdpA
    have E : Sl aA 62 (.int .i64 ((fi : Nat) : Int)) := hdpA 9 _ 62 zy rfl rfl
    have F : Sl aA 63 (.int .i64 (((2 * ((rt : Nat) : Int)) + 1) + 1)) := hdpA 10 _ 63 zy rfl rfl
    clear hbsA hdpA
    refine op_add (zC hNA rfl E) (zC hNA rfl F) (add64 zx) ?_
    exact obR_end rfl rfl (grown_refl _ _)
   ·
    intro aA wA cA hNA hRA hckA hOA hbsA hdpA
    have G : Sl aA 61 v := hdpA 8 _ 61 zy rfl rfl
    have H : Sl aA 64 (.int .i64 (((fi : Nat) : Int) + (((2 * ((rt : Nat) : Int)) + 1) + 1))) := hdpA 11 _ 64 zy rfl rfl
    clear hbsA hdpA
    refine op_index_own (i := (fi + (((2 * rt) + 1) + 1))) slt62 (zC hNA rfl G) hOA (zC hNA rfl H) zx zx ?_
    intro b_ o_ _ hA_
    exact obR_end rfl ⟨b_, o_, rfl, by simpa using hA_⟩ (grown_refl _ _)
   ·
    intro aA wA cA hNA hRA hckA hOA hbsA hdpA
    obtain ⟨L, K, J, I⟩ := hdpA 12 _ 65 zy rfl rfl
    clear hbsA hdpA
    obtain rfl : cA = 0 := Nat.le_zero.1 (hckA 0 21 rfl zy)
    have hOA : Own wA base 57 1 v n (dk.toList.map u64v) := hOA
    refine zN (v := (Value.int .u64 (dk[(fi + (((2 * rt) + 1) + 1))]!.toNat : Int))) one57 (zC hNA rfl J) (by have := hOA.cellAt I 0 _ (el_at (i := (fi + (((2 * rt) + 1) + 1))) (by first | omega | (simp only [Array.size_setIfInBounds, swp_sz, siftDown_size]; omega))); simpa using this) ?_
    exact obR_end rfl rfl (grown_refl _ _)
   ·
    intro aA wA cA hNA hRA hckA hOA hbsA hdpA
    have s := (hbsA 0 rfl).trans (zL c rfl k)
    clear hbsA hdpA
    refine zG (zC hNA rfl s) ?_
    exact obR_end rfl rfl (grown_refl _ _)
   ·
    intro aA wA cA hNA hRA hckA hOA hbsA hdpA
    have x := (hbsA 3 rfl).trans (zL c rfl f)
    clear hbsA hdpA
    refine zG (zC hNA rfl x) ?_
    exact obR_end rfl rfl (grown_refl _ _)
   ·
    intro aA wA cA hNA hRA hckA hOA hbsA hdpA
    have y := (hbsA 8 rfl).trans (zL c rfl l)
    clear hbsA hdpA
    refine zG (zC hNA rfl y) ?_
    exact obR_end rfl rfl (grown_refl _ _)
   ·
    intro aA wA cA hNA hRA hckA hOA hbsA hdpA
    have M : Sl aA 68 (.int .i64 ((fi : Nat) : Int)) := hdpA 15 _ 68 zy rfl rfl
    have P : Sl aA 69 (.int .i64 ((rt : Nat) : Int)) := hdpA 16 _ 69 zy rfl rfl
    clear hbsA hdpA
    refine op_add (zC hNA rfl M) (zC hNA rfl P) (add64 zx) ?_
    exact obR_end rfl rfl (grown_refl _ _)
   ·
    intro aA wA cA hNA hRA hckA hOA hbsA hdpA
    have Q : Sl aA 67 v := hdpA 14 _ 67 zy rfl rfl
    have R : Sl aA 70 (.int .i64 (((fi : Nat) : Int) + ((rt : Nat) : Int))) := hdpA 17 _ 70 zy rfl rfl
    clear hbsA hdpA
    refine op_index_own (i := (fi + rt)) slt62 (zC hNA rfl Q) hOA (zC hNA rfl R) zx zx ?_
    intro b_ o_ _ hA_
    exact obR_end rfl ⟨b_, o_, rfl, by simpa using hA_⟩ (grown_refl _ _)
   ·
    intro aA wA cA hNA hRA hckA hOA hbsA hdpA
    obtain ⟨V, U, S, T⟩ := hdpA 18 _ 71 zy rfl rfl
    clear hbsA hdpA
    obtain rfl : cA = 0 := Nat.le_zero.1 (hckA 0 21 rfl zy)
    have hOA : Own wA base 57 1 v n (dk.toList.map u64v) := hOA
    refine zN (v := (Value.int .u64 (dk[(fi + rt)]!.toNat : Int))) one57 (zC hNA rfl S) (by have := hOA.cellAt T 0 _ (el_at (i := (fi + rt)) (by first | omega | (simp only [Array.size_setIfInBounds, swp_sz, siftDown_size]; omega))); simpa using this) ?_
    exact obR_end rfl rfl (grown_refl _ _)
   ·
    intro aA wA cA hNA hRA hckA hOA hbsA hdpA
    have W : Sl aA 53 v := hdpA 0 _ 53 zy rfl rfl
    have X : Sl aA 56 (.int .i64 (((fi : Nat) : Int) + ((rt : Nat) : Int))) := hdpA 3 _ 56 zy rfl rfl
    clear hbsA hdpA
    refine op_index_own (i := (fi + rt)) slt62 (zC hNA rfl W) hOA (zC hNA rfl X) zx zx ?_
    intro b_ o_ _ hA_
    exact obR_end rfl ⟨b_, o_, rfl, by simpa using hA_⟩ (grown_refl _ _)
   ·
    intro aA wA cA hNA hRA hckA hOA hbsA hdpA
    have Y : Sl aA 57 v := hdpA 4 _ 57 zy rfl rfl
    have Z : Sl aA 60 (.int .i64 (((fi : Nat) : Int) + (((2 * ((rt : Nat) : Int)) + 1) + 1))) := hdpA 7 _ 60 zy rfl rfl
    clear hbsA hdpA
    refine op_index_own (i := (fi + (((2 * rt) + 1) + 1))) slt62 (zC hNA rfl Y) hOA (zC hNA rfl Z) zx zx ?_
    intro b_ o_ _ hA_
    exact obR_end rfl ⟨b_, o_, rfl, by simpa using hA_⟩ (grown_refl _ _)
   ·
    intro o_ ho_; obtain rfl := zE ho_; intro aA wA hNA hRA hbsA hdpA hOA
    obtain ⟨ad, ac, ab, aa⟩ := hdpA 20 _ 73 zy rfl rfl
    have ae : Sl aA 66 (.int .u64 (dk[(fi + (((2 * rt) + 1) + 1))]!.toNat : Int)) := hdpA 13 _ 66 zy rfl rfl
    clear hbsA hdpA
    have hOA : Own wA base 57 1 v n (dk.toList.map u64v) := hOA
    refine op_store_own (vs := [(.int .u64 (dk[(fi + (((2 * rt) + 1) + 1))]!.toNat : Int))]) size57 (zC hNA rfl ab) (zC hNA rfl ae) rfl rfl rfl hOA aa (by have := hOA.1; simp at this ⊢; omega) ?_
    intro w_ hO_ E_
    exact obW_end rfl (hO_.cast rfl (set_arr (by first | omega | (simp only [Array.size_setIfInBounds, swp_sz, siftDown_size]; omega)))) E_
   ·
    intro o_ ho_; obtain rfl := zE ho_; intro aA wA hNA hRA hbsA hdpA hOA
    obtain ⟨ah, ai, af, ag⟩ := hdpA 22 _ 74 zy rfl rfl
    have aj : Sl aA 72 (.int .u64 (dk[(fi + rt)]!.toNat : Int)) := hdpA 19 _ 72 zy rfl rfl
    clear hbsA hdpA
    have hOA : Own wA base 57 1 v n ((dk.setIfInBounds (fi + rt) dk[(fi + (((2 * rt) + 1) + 1))]!).toList.map u64v) := hOA
    refine op_store_own (vs := [(.int .u64 (dk[(fi + rt)]!.toNat : Int))]) size57 (zC hNA rfl af) (zC hNA rfl aj) rfl rfl rfl hOA ag (by have := hOA.1; simp at this ⊢; omega) ?_
    intro w_ hO_ E_
    exact obW_end rfl (hO_.cast rfl (set_arr (by first | omega | (simp only [Array.size_setIfInBounds, swp_sz, siftDown_size]; omega)))) E_
   intro ar ap ak an al aq am ao
   have an := an.trans m
   have ar := (al 0 rfl).trans (zL c rfl k)
   have au := (al 2 rfl).trans (zL c rfl o)
   have av := (al 3 rfl).trans (zL c rfl f)
   have aw := (al 9 rfl).trans (zU c rfl)
   clear al aq
   have am : Own ap base 57 1 v n (((dk.setIfInBounds (fi + rt) dk[(fi + (((2 * rt) + 1) + 1))]!).setIfInBounds (fi + (((2 * rt) + 1) + 1)) dk[(fi + rt)]!).toList.map u64v) := am
   have := ao.size
   have hb := grow_stepX hb ao rfl
   refine a _ _ (zH (zG (zC ak rfl aw) (zD (zA ak rfl) (zB (blk_normal ?_)))))
   -- round 16F 20T 36T 52F
   have hch : childS hi fi rt dk = 2 * rt + 2 := childS_t zx t
   exact zg _ ak an ⟨(2 * rt + 2), _, rfl, (zL ak rfl ar), (zL ak rfl au), (zL ak rfl av), (zU ak rfl).trans (congrArg (Value.int .i64) zx), (by first | assumption | (simp only [Array.size_setIfInBounds, swp_sz, siftDown_size]; assumption)), zx, (hs.trans ((siftDown_go zx (by rw [hch]; simpa [Nat.add_assoc] using u)).trans (by rw [hch]; rfl))), hb, zx, am⟩ zx
  refine wp_skip (a _ _ (zF fun _ a => zF fun _ p => reg_still mixed zy ?_))
  intro al ak
  have := ak.size
  have g := g.keep0 ak
  have hb := grow_step0 hb ak
  refine st_step rfl (fun _ q => zG (zC c rfl k) q) (st_step rfl (fun _ q => zG (zC c rfl f) q) (st_step rfl (fun _ q => zG (zC c rfl l) q) (st_step rfl (fun _ q => op_add (zA c rfl) (zA c rfl) (add64 zx) q) (st_index_rd slt62 (zA c rfl) g.rdw (zA c rfl) zx zx ?_))))
  intro al am an ao ak
  refine st_step rfl (fun _ q => zN (v := (Value.int .u64 (dk[(fi + rt)]!.toNat : Int))) one57 (zA c rfl) (by have := ak 0 (.int .u64 (dk[(fi + rt)]!.toNat : Int)) zz (el_arr (i := (fi + rt)) zx (by first | omega | (simp only [Array.size_setIfInBounds, swp_sz, siftDown_size]; omega))); simpa using this) q) (st_step rfl (fun _ q => zG (zC c rfl k) q) (st_step rfl (fun _ q => zG (zC c rfl f) q) (st_step rfl (fun _ q => zG (zA c rfl) q) (st_step rfl (fun _ q => op_add (zA c rfl) (zA c rfl) (add64 zx) q) (st_index_rd slt62 (zA c rfl) g.rdw (zA c rfl) zx zx ?_)))))
  intro ao an al am ak
  refine st_step rfl (fun _ q => zN (v := (Value.int .u64 (dk[(fi + ((2 * rt) + 1))]!.toNat : Int))) one57 (zA c rfl) (by have := ak 0 (.int .u64 (dk[(fi + ((2 * rt) + 1))]!.toNat : Int)) zz (el_arr (i := (fi + ((2 * rt) + 1))) zx (by first | omega | (simp only [Array.size_setIfInBounds, swp_sz, siftDown_size]; omega))); simpa using this) q) (st_fn (vs := [(.int .u64 (dk[(fi + rt)]!.toNat : Int)), (.int .u64 (dk[(fi + ((2 * rt) + 1))]!.toNat : Int))]) ok73 (⟨(zA c rfl), ⟨(zA c rfl), trivial⟩⟩) (Less16_ret dk[(fi + rt)]! dk[(fi + ((2 * rt) + 1))]! _) (st_step rfl (fun _ q => op_not (zA c rfl) q) (st_nil (p _ _ (wp_cond_split (zA c rfl) (fun u => ?_) (fun u => ?_))))))
  ·
   refine wp_ret (zO (zb (zO (zb ( (ret0 rfl m  ⟨_, rfl, ?_⟩))))))
   have hch : childS hi fi rt dk = 2 * rt + 1 := childS_f (.inr t)
   exact ⟨hb, rfl, g.cast rfl (by rw [hs, siftDown_ret zx (by rw [hch]; simpa [Nat.add_assoc] using u)])⟩
  refine wp_skip (a _ _ (zF fun _ a => ?_))
  refine reg_mid (e := 57) (sz := 1) (base := base) (n := n) (v := v) (Φ := phiL [(fun uz _ => uz = v), (fun uz _ => uz = (.int .i64 ((fi : Nat) : Int))), (fun uz _ => uz = (.int .i64 ((rt : Nat) : Int))), (fun uz _ => uz = (.int .i64 (((fi : Nat) : Int) + ((rt : Nat) : Int)))), (fun uz _ => uz = v), (fun uz _ => uz = (.int .i64 ((fi : Nat) : Int))), (fun uz _ => uz = (.int .i64 ((2 * ((rt : Nat) : Int)) + 1))), (fun uz _ => uz = (.int .i64 (((fi : Nat) : Int) + ((2 * ((rt : Nat) : Int)) + 1)))), (fun uz _ => uz = v), (fun uz _ => uz = (.int .i64 ((fi : Nat) : Int))), (fun uz _ => uz = (.int .i64 ((2 * ((rt : Nat) : Int)) + 1))), (fun uz _ => uz = (.int .i64 (((fi : Nat) : Int) + ((2 * ((rt : Nat) : Int)) + 1)))), (fun uz _ => ∃ bz oz, uz = ptr bz oz ∧ AtV v (fi + ((2 * rt) + 1)) bz oz), (fun uz _ => uz = (.int .u64 (dk[(fi + ((2 * rt) + 1))]!.toNat : Int))), (fun uz _ => uz = v), (fun uz _ => uz = (.int .i64 ((fi : Nat) : Int))), (fun uz _ => uz = (.int .i64 ((rt : Nat) : Int))), (fun uz _ => uz = (.int .i64 (((fi : Nat) : Int) + ((rt : Nat) : Int)))), (fun uz _ => ∃ bz oz, uz = ptr bz oz ∧ AtV v (fi + rt) bz oz), (fun uz _ => uz = (.int .u64 (dk[(fi + rt)]!.toNat : Int))), (fun uz _ => ∃ bz oz, uz = ptr bz oz ∧ AtV v (fi + rt) bz oz), (fun _ _ => True), (fun uz _ => ∃ bz oz, uz = ptr bz oz ∧ AtV v (fi + ((2 * rt) + 1)) bz oz), (fun _ _ => True)]) [21, 23] [(dk.toList.map u64v), ((dk.setIfInBounds (fi + rt) dk[(fi + ((2 * rt) + 1))]!).toList.map u64v), (((dk.setIfInBounds (fi + rt) dk[(fi + ((2 * rt) + 1))]!).setIfInBounds (fi + ((2 * rt) + 1)) dk[(fi + rt)]!).toList.map u64v)] mixed zy zy zy zy c g (StL.get (StL.eq (StL.eq (StL.eq (StL.eq (StL.eq (StL.eq (StL.eq (StL.eq (StL.eq (StL.eq (StL.eq (StL.eq (StL.at (StL.eq (StL.eq (StL.eq (StL.eq (StL.eq (StL.at (StL.eq (StL.at (StL.cons (fun _ _ _ _ h => h) (StL.at (StL.cons (fun _ _ _ _ h => h) (StL.nil _)))))))))))))))))))))))))) (ObRs.get (ObRs.cons ?_ (ObRs.cons ?_ (ObRs.cons ?_ (ObRs.cons ?_ (ObRs.cons ?_ (ObRs.cons ?_ (ObRs.cons ?_ (ObRs.cons ?_ (ObRs.cons ?_ (ObRs.cons ?_ (ObRs.cons ?_ (ObRs.cons ?_ (ObRs.cons ?_ (ObRs.cons ?_ (ObRs.cons ?_ (ObRs.cons ?_ (ObRs.cons ?_ (ObRs.cons ?_ (ObRs.cons ?_ (ObRs.cons ?_ (ObRs.cons ?_ (ObRs.pass rfl (ObRs.cons ?_ (ObRs.pass rfl (ObRs.nil)))))))))))))))))))))))))) (ObWs.get (ObWs.cons ?_ (ObWs.cons ?_ (ObWs.nil)))) ?_
  ·
   intro aA wA cA hNA hRA hckA hOA hbsA hdpA
   have s := (hbsA 0 rfl).trans (zL c rfl k)
   clear hbsA hdpA
   refine zG (zC hNA rfl s) ?_
   exact obR_end rfl rfl (grown_refl _ _)
  ·
   intro aA wA cA hNA hRA hckA hOA hbsA hdpA
   have x := (hbsA 3 rfl).trans (zL c rfl f)
   clear hbsA hdpA
   refine zG (zC hNA rfl x) ?_
   exact obR_end rfl rfl (grown_refl _ _)
  ·
   intro aA wA cA hNA hRA hckA hOA hbsA hdpA
   have y := (hbsA 8 rfl).trans (zL c rfl l)
   clear hbsA hdpA
   refine zG (zC hNA rfl y) ?_
   exact obR_end rfl rfl (grown_refl _ _)
  ·
   intro aA wA cA hNA hRA hckA hOA hbsA hdpA
   have z : Sl aA 54 (.int .i64 ((fi : Nat) : Int)) := hdpA 1 _ 54 zy rfl rfl
   have A : Sl aA 55 (.int .i64 ((rt : Nat) : Int)) := hdpA 2 _ 55 zy rfl rfl
   clear hbsA hdpA
   refine op_add (zC hNA rfl z) (zC hNA rfl A) (add64 zx) ?_
   exact obR_end rfl rfl (grown_refl _ _)
  ·
   intro aA wA cA hNA hRA hckA hOA hbsA hdpA
   have s := (hbsA 0 rfl).trans (zL c rfl k)
   clear hbsA hdpA
   refine zG (zC hNA rfl s) ?_
   exact obR_end rfl rfl (grown_refl _ _)
  ·
   intro aA wA cA hNA hRA hckA hOA hbsA hdpA
   have x := (hbsA 3 rfl).trans (zL c rfl f)
   clear hbsA hdpA
   refine zG (zC hNA rfl x) ?_
   exact obR_end rfl rfl (grown_refl _ _)
  ·
   intro aA wA cA hNA hRA hckA hOA hbsA hdpA
   have B := (hbsA 9 rfl).trans (zU c rfl)
   clear hbsA hdpA
   refine zG (zC hNA rfl B) ?_
   exact obR_end rfl rfl (grown_refl _ _)
  ·
   intro aA wA cA hNA hRA hckA hOA hbsA hdpA
   have C : Sl aA 58 (.int .i64 ((fi : Nat) : Int)) := hdpA 5 _ 58 zy rfl rfl
   have D : Sl aA 59 (.int .i64 ((2 * ((rt : Nat) : Int)) + 1)) := hdpA 6 _ 59 zy rfl rfl
   clear hbsA hdpA
   refine op_add (zC hNA rfl C) (zC hNA rfl D) (add64 zx) ?_
   exact obR_end rfl rfl (grown_refl _ _)
  ·
   intro aA wA cA hNA hRA hckA hOA hbsA hdpA
   have s := (hbsA 0 rfl).trans (zL c rfl k)
   clear hbsA hdpA
   refine zG (zC hNA rfl s) ?_
   exact obR_end rfl rfl (grown_refl _ _)
  ·
   intro aA wA cA hNA hRA hckA hOA hbsA hdpA
   have x := (hbsA 3 rfl).trans (zL c rfl f)
   clear hbsA hdpA
   refine zG (zC hNA rfl x) ?_
   exact obR_end rfl rfl (grown_refl _ _)
  ·
   intro aA wA cA hNA hRA hckA hOA hbsA hdpA
   have B := (hbsA 9 rfl).trans (zU c rfl)
   clear hbsA hdpA
   refine zG (zC hNA rfl B) ?_
   exact obR_end rfl rfl (grown_refl _ _)
  ·
   intro aA wA cA hNA hRA hckA hOA hbsA hdpA
   have E : Sl aA 62 (.int .i64 ((fi : Nat) : Int)) := hdpA 9 _ 62 zy rfl rfl
   have F : Sl aA 63 (.int .i64 ((2 * ((rt : Nat) : Int)) + 1)) := hdpA 10 _ 63 zy rfl rfl
   clear hbsA hdpA
   refine op_add (zC hNA rfl E) (zC hNA rfl F) (add64 zx) ?_
   exact obR_end rfl rfl (grown_refl _ _)
  ·
   intro aA wA cA hNA hRA hckA hOA hbsA hdpA
   have G : Sl aA 61 v := hdpA 8 _ 61 zy rfl rfl
   have H : Sl aA 64 (.int .i64 (((fi : Nat) : Int) + ((2 * ((rt : Nat) : Int)) + 1))) := hdpA 11 _ 64 zy rfl rfl
   clear hbsA hdpA
   refine op_index_own (i := (fi + ((2 * rt) + 1))) slt62 (zC hNA rfl G) hOA (zC hNA rfl H) zx zx ?_
   intro b_ o_ _ hA_
   exact obR_end rfl ⟨b_, o_, rfl, by simpa using hA_⟩ (grown_refl _ _)
  ·
   intro aA wA cA hNA hRA hckA hOA hbsA hdpA
   obtain ⟨L, K, J, I⟩ := hdpA 12 _ 65 zy rfl rfl
   clear hbsA hdpA
   obtain rfl : cA = 0 := Nat.le_zero.1 (hckA 0 21 rfl zy)
   have hOA : Own wA base 57 1 v n (dk.toList.map u64v) := hOA
   refine zN (v := (Value.int .u64 (dk[(fi + ((2 * rt) + 1))]!.toNat : Int))) one57 (zC hNA rfl J) (by have := hOA.cellAt I 0 _ (el_at (i := (fi + ((2 * rt) + 1))) (by first | omega | (simp only [Array.size_setIfInBounds, swp_sz, siftDown_size]; omega))); simpa using this) ?_
   exact obR_end rfl rfl (grown_refl _ _)
  ·
   intro aA wA cA hNA hRA hckA hOA hbsA hdpA
   have s := (hbsA 0 rfl).trans (zL c rfl k)
   clear hbsA hdpA
   refine zG (zC hNA rfl s) ?_
   exact obR_end rfl rfl (grown_refl _ _)
  ·
   intro aA wA cA hNA hRA hckA hOA hbsA hdpA
   have x := (hbsA 3 rfl).trans (zL c rfl f)
   clear hbsA hdpA
   refine zG (zC hNA rfl x) ?_
   exact obR_end rfl rfl (grown_refl _ _)
  ·
   intro aA wA cA hNA hRA hckA hOA hbsA hdpA
   have y := (hbsA 8 rfl).trans (zL c rfl l)
   clear hbsA hdpA
   refine zG (zC hNA rfl y) ?_
   exact obR_end rfl rfl (grown_refl _ _)
  ·
   intro aA wA cA hNA hRA hckA hOA hbsA hdpA
   have M : Sl aA 68 (.int .i64 ((fi : Nat) : Int)) := hdpA 15 _ 68 zy rfl rfl
   have P : Sl aA 69 (.int .i64 ((rt : Nat) : Int)) := hdpA 16 _ 69 zy rfl rfl
   clear hbsA hdpA
   refine op_add (zC hNA rfl M) (zC hNA rfl P) (add64 zx) ?_
   exact obR_end rfl rfl (grown_refl _ _)
  ·
   intro aA wA cA hNA hRA hckA hOA hbsA hdpA
   have Q : Sl aA 67 v := hdpA 14 _ 67 zy rfl rfl
   have R : Sl aA 70 (.int .i64 (((fi : Nat) : Int) + ((rt : Nat) : Int))) := hdpA 17 _ 70 zy rfl rfl
   clear hbsA hdpA
   refine op_index_own (i := (fi + rt)) slt62 (zC hNA rfl Q) hOA (zC hNA rfl R) zx zx ?_
   intro b_ o_ _ hA_
   exact obR_end rfl ⟨b_, o_, rfl, by simpa using hA_⟩ (grown_refl _ _)
  ·
   intro aA wA cA hNA hRA hckA hOA hbsA hdpA
   obtain ⟨V, U, S, T⟩ := hdpA 18 _ 71 zy rfl rfl
   clear hbsA hdpA
   obtain rfl : cA = 0 := Nat.le_zero.1 (hckA 0 21 rfl zy)
   have hOA : Own wA base 57 1 v n (dk.toList.map u64v) := hOA
   refine zN (v := (Value.int .u64 (dk[(fi + rt)]!.toNat : Int))) one57 (zC hNA rfl S) (by have := hOA.cellAt T 0 _ (el_at (i := (fi + rt)) (by first | omega | (simp only [Array.size_setIfInBounds, swp_sz, siftDown_size]; omega))); simpa using this) ?_
   exact obR_end rfl rfl (grown_refl _ _)
  ·
   intro aA wA cA hNA hRA hckA hOA hbsA hdpA
   have W : Sl aA 53 v := hdpA 0 _ 53 zy rfl rfl
   have X : Sl aA 56 (.int .i64 (((fi : Nat) : Int) + ((rt : Nat) : Int))) := hdpA 3 _ 56 zy rfl rfl
   clear hbsA hdpA
   refine op_index_own (i := (fi + rt)) slt62 (zC hNA rfl W) hOA (zC hNA rfl X) zx zx ?_
   intro b_ o_ _ hA_
   exact obR_end rfl ⟨b_, o_, rfl, by simpa using hA_⟩ (grown_refl _ _)
  ·
   intro aA wA cA hNA hRA hckA hOA hbsA hdpA
   have Y : Sl aA 57 v := hdpA 4 _ 57 zy rfl rfl
   have Z : Sl aA 60 (.int .i64 (((fi : Nat) : Int) + ((2 * ((rt : Nat) : Int)) + 1))) := hdpA 7 _ 60 zy rfl rfl
   clear hbsA hdpA
   refine op_index_own (i := (fi + ((2 * rt) + 1))) slt62 (zC hNA rfl Y) hOA (zC hNA rfl Z) zx zx ?_
   intro b_ o_ _ hA_
   exact obR_end rfl ⟨b_, o_, rfl, by simpa using hA_⟩ (grown_refl _ _)
  ·
   intro o_ ho_; obtain rfl := zE ho_; intro aA wA hNA hRA hbsA hdpA hOA
   obtain ⟨ad, ac, ab, aa⟩ := hdpA 20 _ 73 zy rfl rfl
   have ae : Sl aA 66 (.int .u64 (dk[(fi + ((2 * rt) + 1))]!.toNat : Int)) := hdpA 13 _ 66 zy rfl rfl
   clear hbsA hdpA
   have hOA : Own wA base 57 1 v n (dk.toList.map u64v) := hOA
   refine op_store_own (vs := [(.int .u64 (dk[(fi + ((2 * rt) + 1))]!.toNat : Int))]) size57 (zC hNA rfl ab) (zC hNA rfl ae) rfl rfl rfl hOA aa (by have := hOA.1; simp at this ⊢; omega) ?_
   intro w_ hO_ E_
   exact obW_end rfl (hO_.cast rfl (set_arr (by first | omega | (simp only [Array.size_setIfInBounds, swp_sz, siftDown_size]; omega)))) E_
  ·
   intro o_ ho_; obtain rfl := zE ho_; intro aA wA hNA hRA hbsA hdpA hOA
   obtain ⟨ah, ai, af, ag⟩ := hdpA 22 _ 74 zy rfl rfl
   have aj : Sl aA 72 (.int .u64 (dk[(fi + rt)]!.toNat : Int)) := hdpA 19 _ 72 zy rfl rfl
   clear hbsA hdpA
   have hOA : Own wA base 57 1 v n ((dk.setIfInBounds (fi + rt) dk[(fi + ((2 * rt) + 1))]!).toList.map u64v) := hOA
   refine op_store_own (vs := [(.int .u64 (dk[(fi + rt)]!.toNat : Int))]) size57 (zC hNA rfl af) (zC hNA rfl aj) rfl rfl rfl hOA ag (by have := hOA.1; simp at this ⊢; omega) ?_
   intro w_ hO_ E_
   exact obW_end rfl (hO_.cast rfl (set_arr (by first | omega | (simp only [Array.size_setIfInBounds, swp_sz, siftDown_size]; omega)))) E_
  intro ar ap ak an al aq am ao
  have an := an.trans m
  have ar := (al 0 rfl).trans (zL c rfl k)
  have au := (al 2 rfl).trans (zL c rfl o)
  have av := (al 3 rfl).trans (zL c rfl f)
  have aw := (al 9 rfl).trans (zU c rfl)
  clear al aq
  have am : Own ap base 57 1 v n (((dk.setIfInBounds (fi + rt) dk[(fi + ((2 * rt) + 1))]!).setIfInBounds (fi + ((2 * rt) + 1)) dk[(fi + rt)]!).toList.map u64v) := am
  have := ao.size
  have hb := grow_stepX hb ao rfl
  refine a _ _ (zH (zG (zC ak rfl aw) (zD (zA ak rfl) (zB (blk_normal ?_)))))
  -- round 16F 20T 36F 52F
  have hch : childS hi fi rt dk = 2 * rt + 1 := childS_f (.inr t)
  exact zg _ ak an ⟨(2 * rt + 1), _, rfl, (zL ak rfl ar), (zL ak rfl au), (zL ak rfl av), (zU ak rfl).trans (congrArg (Value.int .i64) zx), (by first | assumption | (simp only [Array.size_setIfInBounds, swp_sz, siftDown_size]; assumption)), zx, (hs.trans ((siftDown_go zx (by rw [hch]; simpa [Nat.add_assoc] using u)).trans (by rw [hch]; rfl))), hb, zx, am⟩ zx
 refine st_step rfl (fun _ q => op_cmp (b := false) (zA c rfl) (zA c rfl) (b_lss (decide_eq_false r)) q) ?_
 refine st_step rfl (fun _ q => zG (zA c rfl) q) (st_g_false (j := 4) (dj := 21) (b := true) rfl rfl rfl (zA c rfl) rfl rfl (st_g_false (j := 4) (dj := 21) (b := true) rfl rfl rfl (zA c rfl) rfl rfl (st_g_false (j := 4) (dj := 21) (b := true) rfl rfl rfl (zA c rfl) rfl rfl (st_g_false (j := 4) (dj := 21) (b := true) rfl rfl rfl (zA c rfl) rfl rfl (st_g_false (j := 4) (dj := 21) (b := true) rfl rfl rfl (zA c rfl) rfl rfl (st_g_false (j := 4) (dj := 21) (b := true) rfl rfl rfl (zA c rfl) rfl rfl (st_g_false (j := 4) (dj := 21) (b := true) rfl rfl rfl (zA c rfl) rfl rfl (st_g_false (j := 4) (dj := 21) (b := true) rfl rfl rfl (zA c rfl) rfl rfl (st_g_false (j := 4) (dj := 21) (b := true) rfl rfl rfl (zA c rfl) rfl rfl ?_)))))))))
 refine st_g_false (j := 4) (dj := 21) (b := true) rfl rfl rfl (zA c rfl) rfl rfl (st_g_false (j := 4) (dj := 21) (b := true) rfl rfl rfl (zA c rfl) rfl rfl (st_g_false (j := 4) (dj := 21) (b := true) rfl rfl rfl (zA c rfl) rfl rfl (st_g_false (j := 4) (dj := 21) (b := true) rfl rfl rfl (zA c rfl) rfl rfl (st_g_false (j := 4) (dj := 21) (b := true) rfl rfl rfl (zA c rfl) rfl rfl (st_step rfl (fun _ q => zd (zA c rfl) rfl q) (st_nil (p _ _ (wp_cond_false (zA c rfl) (wp_skip (a _ _ (zF fun _ a => zF fun _ p => reg_still mixed zy ?_)))))))))))
 intro t r
 have := r.size
 have g := g.keep0 r
 have hb := grow_step0 hb r
 refine st_step rfl (fun _ q => zG (zC c rfl k) q) (st_step rfl (fun _ q => zG (zC c rfl f) q) (st_step rfl (fun _ q => zG (zC c rfl l) q) (st_step rfl (fun _ q => op_add (zA c rfl) (zA c rfl) (add64 zx) q) (st_index_rd slt62 (zA c rfl) g.rdw (zA c rfl) zx zx ?_))))
 intro t al am ak r
 refine st_step rfl (fun _ q => zN (v := (Value.int .u64 (dk[(fi + rt)]!.toNat : Int))) one57 (zA c rfl) (by have := r 0 (.int .u64 (dk[(fi + rt)]!.toNat : Int)) zz (el_arr (i := (fi + rt)) zx (by first | omega | (simp only [Array.size_setIfInBounds, swp_sz, siftDown_size]; omega))); simpa using this) q) (st_step rfl (fun _ q => zG (zC c rfl k) q) (st_step rfl (fun _ q => zG (zC c rfl f) q) (st_step rfl (fun _ q => zG (zA c rfl) q) (st_step rfl (fun _ q => op_add (zA c rfl) (zA c rfl) (add64 zx) q) (st_index_rd slt62 (zA c rfl) g.rdw (zA c rfl) zx zx ?_)))))
 intro am al t ak r
 refine st_step rfl (fun _ q => zN (v := (Value.int .u64 (dk[(fi + ((2 * rt) + 1))]!.toNat : Int))) one57 (zA c rfl) (by have := r 0 (.int .u64 (dk[(fi + ((2 * rt) + 1))]!.toNat : Int)) zz (el_arr (i := (fi + ((2 * rt) + 1))) zx (by first | omega | (simp only [Array.size_setIfInBounds, swp_sz, siftDown_size]; omega))); simpa using this) q) (st_fn (vs := [(.int .u64 (dk[(fi + rt)]!.toNat : Int)), (.int .u64 (dk[(fi + ((2 * rt) + 1))]!.toNat : Int))]) ok73 (⟨(zA c rfl), ⟨(zA c rfl), trivial⟩⟩) (Less16_ret dk[(fi + rt)]! dk[(fi + ((2 * rt) + 1))]! _) (st_step rfl (fun _ q => op_not (zA c rfl) q) (st_nil (p _ _ (wp_cond_split (zA c rfl) (fun u => ?_) (fun u => ?_))))))
 ·
  refine wp_ret (zO (zb (zO (zb ( (ret0 rfl m  ⟨_, rfl, ?_⟩))))))
  have hch : childS hi fi rt dk = 2 * rt + 1 := childS_f (.inl zx)
  exact ⟨hb, rfl, g.cast rfl (by rw [hs, siftDown_ret zx (by rw [hch]; simpa [Nat.add_assoc] using u)])⟩
 refine wp_skip (a _ _ (zF fun _ a => ?_))
 refine reg_mid (e := 57) (sz := 1) (base := base) (n := n) (v := v) (Φ := phiL [(fun uz _ => uz = v), (fun uz _ => uz = (.int .i64 ((fi : Nat) : Int))), (fun uz _ => uz = (.int .i64 ((rt : Nat) : Int))), (fun uz _ => uz = (.int .i64 (((fi : Nat) : Int) + ((rt : Nat) : Int)))), (fun uz _ => uz = v), (fun uz _ => uz = (.int .i64 ((fi : Nat) : Int))), (fun uz _ => uz = (.int .i64 ((2 * ((rt : Nat) : Int)) + 1))), (fun uz _ => uz = (.int .i64 (((fi : Nat) : Int) + ((2 * ((rt : Nat) : Int)) + 1)))), (fun uz _ => uz = v), (fun uz _ => uz = (.int .i64 ((fi : Nat) : Int))), (fun uz _ => uz = (.int .i64 ((2 * ((rt : Nat) : Int)) + 1))), (fun uz _ => uz = (.int .i64 (((fi : Nat) : Int) + ((2 * ((rt : Nat) : Int)) + 1)))), (fun uz _ => ∃ bz oz, uz = ptr bz oz ∧ AtV v (fi + ((2 * rt) + 1)) bz oz), (fun uz _ => uz = (.int .u64 (dk[(fi + ((2 * rt) + 1))]!.toNat : Int))), (fun uz _ => uz = v), (fun uz _ => uz = (.int .i64 ((fi : Nat) : Int))), (fun uz _ => uz = (.int .i64 ((rt : Nat) : Int))), (fun uz _ => uz = (.int .i64 (((fi : Nat) : Int) + ((rt : Nat) : Int)))), (fun uz _ => ∃ bz oz, uz = ptr bz oz ∧ AtV v (fi + rt) bz oz), (fun uz _ => uz = (.int .u64 (dk[(fi + rt)]!.toNat : Int))), (fun uz _ => ∃ bz oz, uz = ptr bz oz ∧ AtV v (fi + rt) bz oz), (fun _ _ => True), (fun uz _ => ∃ bz oz, uz = ptr bz oz ∧ AtV v (fi + ((2 * rt) + 1)) bz oz), (fun _ _ => True)]) [21, 23] [(dk.toList.map u64v), ((dk.setIfInBounds (fi + rt) dk[(fi + ((2 * rt) + 1))]!).toList.map u64v), (((dk.setIfInBounds (fi + rt) dk[(fi + ((2 * rt) + 1))]!).setIfInBounds (fi + ((2 * rt) + 1)) dk[(fi + rt)]!).toList.map u64v)] mixed zy zy zy zy c g (StL.get (StL.eq (StL.eq (StL.eq (StL.eq (StL.eq (StL.eq (StL.eq (StL.eq (StL.eq (StL.eq (StL.eq (StL.eq (StL.at (StL.eq (StL.eq (StL.eq (StL.eq (StL.eq (StL.at (StL.eq (StL.at (StL.cons (fun _ _ _ _ h => h) (StL.at (StL.cons (fun _ _ _ _ h => h) (StL.nil _)))))))))))))))))))))))))) (ObRs.get (ObRs.cons ?_ (ObRs.cons ?_ (ObRs.cons ?_ (ObRs.cons ?_ (ObRs.cons ?_ (ObRs.cons ?_ (ObRs.cons ?_ (ObRs.cons ?_ (ObRs.cons ?_ (ObRs.cons ?_ (ObRs.cons ?_ (ObRs.cons ?_ (ObRs.cons ?_ (ObRs.cons ?_ (ObRs.cons ?_ (ObRs.cons ?_ (ObRs.cons ?_ (ObRs.cons ?_ (ObRs.cons ?_ (ObRs.cons ?_ (ObRs.cons ?_ (ObRs.pass rfl (ObRs.cons ?_ (ObRs.pass rfl (ObRs.nil)))))))))))))))))))))))))) (ObWs.get (ObWs.cons ?_ (ObWs.cons ?_ (ObWs.nil)))) ?_
 ·
  intro aA wA cA hNA hRA hckA hOA hbsA hdpA
  have s := (hbsA 0 rfl).trans (zL c rfl k)
  clear hbsA hdpA
  refine zG (zC hNA rfl s) ?_
  exact obR_end rfl rfl (grown_refl _ _)
 ·
  intro aA wA cA hNA hRA hckA hOA hbsA hdpA
  have x := (hbsA 3 rfl).trans (zL c rfl f)
  clear hbsA hdpA
  refine zG (zC hNA rfl x) ?_
  exact obR_end rfl rfl (grown_refl _ _)
 ·
  intro aA wA cA hNA hRA hckA hOA hbsA hdpA
  have y := (hbsA 8 rfl).trans (zL c rfl l)
  clear hbsA hdpA
  refine zG (zC hNA rfl y) ?_
  exact obR_end rfl rfl (grown_refl _ _)
 ·
  intro aA wA cA hNA hRA hckA hOA hbsA hdpA
  have z : Sl aA 54 (.int .i64 ((fi : Nat) : Int)) := hdpA 1 _ 54 zy rfl rfl
  have A : Sl aA 55 (.int .i64 ((rt : Nat) : Int)) := hdpA 2 _ 55 zy rfl rfl
  clear hbsA hdpA
  refine op_add (zC hNA rfl z) (zC hNA rfl A) (add64 zx) ?_
  exact obR_end rfl rfl (grown_refl _ _)
 ·
  intro aA wA cA hNA hRA hckA hOA hbsA hdpA
  have s := (hbsA 0 rfl).trans (zL c rfl k)
  clear hbsA hdpA
  refine zG (zC hNA rfl s) ?_
  exact obR_end rfl rfl (grown_refl _ _)
 ·
  intro aA wA cA hNA hRA hckA hOA hbsA hdpA
  have x := (hbsA 3 rfl).trans (zL c rfl f)
  clear hbsA hdpA
  refine zG (zC hNA rfl x) ?_
  exact obR_end rfl rfl (grown_refl _ _)
 ·
  intro aA wA cA hNA hRA hckA hOA hbsA hdpA
  have B := (hbsA 9 rfl).trans (zU c rfl)
  clear hbsA hdpA
  refine zG (zC hNA rfl B) ?_
  exact obR_end rfl rfl (grown_refl _ _)
 ·
  intro aA wA cA hNA hRA hckA hOA hbsA hdpA
  have C : Sl aA 58 (.int .i64 ((fi : Nat) : Int)) := hdpA 5 _ 58 zy rfl rfl
  have D : Sl aA 59 (.int .i64 ((2 * ((rt : Nat) : Int)) + 1)) := hdpA 6 _ 59 zy rfl rfl
  clear hbsA hdpA
  refine op_add (zC hNA rfl C) (zC hNA rfl D) (add64 zx) ?_
  exact obR_end rfl rfl (grown_refl _ _)
 ·
  intro aA wA cA hNA hRA hckA hOA hbsA hdpA
  have s := (hbsA 0 rfl).trans (zL c rfl k)
  clear hbsA hdpA
  refine zG (zC hNA rfl s) ?_
  exact obR_end rfl rfl (grown_refl _ _)
 ·
  intro aA wA cA hNA hRA hckA hOA hbsA hdpA
  have x := (hbsA 3 rfl).trans (zL c rfl f)
  clear hbsA hdpA
  refine zG (zC hNA rfl x) ?_
  exact obR_end rfl rfl (grown_refl _ _)
 ·
  intro aA wA cA hNA hRA hckA hOA hbsA hdpA
  have B := (hbsA 9 rfl).trans (zU c rfl)
  clear hbsA hdpA
  refine zG (zC hNA rfl B) ?_
  exact obR_end rfl rfl (grown_refl _ _)
 ·
  intro aA wA cA hNA hRA hckA hOA hbsA hdpA
  have E : Sl aA 62 (.int .i64 ((fi : Nat) : Int)) := hdpA 9 _ 62 zy rfl rfl
  have F : Sl aA 63 (.int .i64 ((2 * ((rt : Nat) : Int)) + 1)) := hdpA 10 _ 63 zy rfl rfl
  clear hbsA hdpA
  refine op_add (zC hNA rfl E) (zC hNA rfl F) (add64 zx) ?_
  exact obR_end rfl rfl (grown_refl _ _)
 ·
  intro aA wA cA hNA hRA hckA hOA hbsA hdpA
  have G : Sl aA 61 v := hdpA 8 _ 61 zy rfl rfl
  have H : Sl aA 64 (.int .i64 (((fi : Nat) : Int) + ((2 * ((rt : Nat) : Int)) + 1))) := hdpA 11 _ 64 zy rfl rfl
  clear hbsA hdpA
  refine op_index_own (i := (fi + ((2 * rt) + 1))) slt62 (zC hNA rfl G) hOA (zC hNA rfl H) zx zx ?_
  intro b_ o_ _ hA_
  exact obR_end rfl ⟨b_, o_, rfl, by simpa using hA_⟩ (grown_refl _ _)
 ·
  intro aA wA cA hNA hRA hckA hOA hbsA hdpA
  obtain ⟨L, K, J, I⟩ := hdpA 12 _ 65 zy rfl rfl
  clear hbsA hdpA
  obtain rfl : cA = 0 := Nat.le_zero.1 (hckA 0 21 rfl zy)
  have hOA : Own wA base 57 1 v n (dk.toList.map u64v) := hOA
  refine zN (v := (Value.int .u64 (dk[(fi + ((2 * rt) + 1))]!.toNat : Int))) one57 (zC hNA rfl J) (by have := hOA.cellAt I 0 _ (el_at (i := (fi + ((2 * rt) + 1))) (by first | omega | (simp only [Array.size_setIfInBounds, swp_sz, siftDown_size]; omega))); simpa using this) ?_
  exact obR_end rfl rfl (grown_refl _ _)
 ·
  intro aA wA cA hNA hRA hckA hOA hbsA hdpA
  have s := (hbsA 0 rfl).trans (zL c rfl k)
  clear hbsA hdpA
  refine zG (zC hNA rfl s) ?_
  exact obR_end rfl rfl (grown_refl _ _)
 ·
  intro aA wA cA hNA hRA hckA hOA hbsA hdpA
  have x := (hbsA 3 rfl).trans (zL c rfl f)
  clear hbsA hdpA
  refine zG (zC hNA rfl x) ?_
  exact obR_end rfl rfl (grown_refl _ _)
 ·
  intro aA wA cA hNA hRA hckA hOA hbsA hdpA
  have y := (hbsA 8 rfl).trans (zL c rfl l)
  clear hbsA hdpA
  refine zG (zC hNA rfl y) ?_
  exact obR_end rfl rfl (grown_refl _ _)
 ·
  intro aA wA cA hNA hRA hckA hOA hbsA hdpA
  have M : Sl aA 68 (.int .i64 ((fi : Nat) : Int)) := hdpA 15 _ 68 zy rfl rfl
  have P : Sl aA 69 (.int .i64 ((rt : Nat) : Int)) := hdpA 16 _ 69 zy rfl rfl
  clear hbsA hdpA
  refine op_add (zC hNA rfl M) (zC hNA rfl P) (add64 zx) ?_
  exact obR_end rfl rfl (grown_refl _ _)
 ·
  intro aA wA cA hNA hRA hckA hOA hbsA hdpA
  have Q : Sl aA 67 v := hdpA 14 _ 67 zy rfl rfl
  have R : Sl aA 70 (.int .i64 (((fi : Nat) : Int) + ((rt : Nat) : Int))) := hdpA 17 _ 70 zy rfl rfl
  clear hbsA hdpA
  refine op_index_own (i := (fi + rt)) slt62 (zC hNA rfl Q) hOA (zC hNA rfl R) zx zx ?_
  intro b_ o_ _ hA_
  exact obR_end rfl ⟨b_, o_, rfl, by simpa using hA_⟩ (grown_refl _ _)
 ·
  intro aA wA cA hNA hRA hckA hOA hbsA hdpA
  obtain ⟨V, U, S, T⟩ := hdpA 18 _ 71 zy rfl rfl
  clear hbsA hdpA
  obtain rfl : cA = 0 := Nat.le_zero.1 (hckA 0 21 rfl zy)
  have hOA : Own wA base 57 1 v n (dk.toList.map u64v) := hOA
  refine zN (v := (Value.int .u64 (dk[(fi + rt)]!.toNat : Int))) one57 (zC hNA rfl S) (by have := hOA.cellAt T 0 _ (el_at (i := (fi + rt)) (by first | omega | (simp only [Array.size_setIfInBounds, swp_sz, siftDown_size]; omega))); simpa using this) ?_
  exact obR_end rfl rfl (grown_refl _ _)
 ·
  intro aA wA cA hNA hRA hckA hOA hbsA hdpA
  have W : Sl aA 53 v := hdpA 0 _ 53 zy rfl rfl
  have X : Sl aA 56 (.int .i64 (((fi : Nat) : Int) + ((rt : Nat) : Int))) := hdpA 3 _ 56 zy rfl rfl
  clear hbsA hdpA
  refine op_index_own (i := (fi + rt)) slt62 (zC hNA rfl W) hOA (zC hNA rfl X) zx zx ?_
  intro b_ o_ _ hA_
  exact obR_end rfl ⟨b_, o_, rfl, by simpa using hA_⟩ (grown_refl _ _)
 ·
  intro aA wA cA hNA hRA hckA hOA hbsA hdpA
  have Y : Sl aA 57 v := hdpA 4 _ 57 zy rfl rfl
  have Z : Sl aA 60 (.int .i64 (((fi : Nat) : Int) + ((2 * ((rt : Nat) : Int)) + 1))) := hdpA 7 _ 60 zy rfl rfl
  clear hbsA hdpA
  refine op_index_own (i := (fi + ((2 * rt) + 1))) slt62 (zC hNA rfl Y) hOA (zC hNA rfl Z) zx zx ?_
  intro b_ o_ _ hA_
  exact obR_end rfl ⟨b_, o_, rfl, by simpa using hA_⟩ (grown_refl _ _)
 ·
  intro o_ ho_; obtain rfl := zE ho_; intro aA wA hNA hRA hbsA hdpA hOA
  obtain ⟨ad, ac, ab, aa⟩ := hdpA 20 _ 73 zy rfl rfl
  have ae : Sl aA 66 (.int .u64 (dk[(fi + ((2 * rt) + 1))]!.toNat : Int)) := hdpA 13 _ 66 zy rfl rfl
  clear hbsA hdpA
  have hOA : Own wA base 57 1 v n (dk.toList.map u64v) := hOA
  refine op_store_own (vs := [(.int .u64 (dk[(fi + ((2 * rt) + 1))]!.toNat : Int))]) size57 (zC hNA rfl ab) (zC hNA rfl ae) rfl rfl rfl hOA aa (by have := hOA.1; simp at this ⊢; omega) ?_
  intro w_ hO_ E_
  exact obW_end rfl (hO_.cast rfl (set_arr (by first | omega | (simp only [Array.size_setIfInBounds, swp_sz, siftDown_size]; omega)))) E_
 ·
  intro o_ ho_; obtain rfl := zE ho_; intro aA wA hNA hRA hbsA hdpA hOA
  obtain ⟨ah, ai, af, ag⟩ := hdpA 22 _ 74 zy rfl rfl
  have aj : Sl aA 72 (.int .u64 (dk[(fi + rt)]!.toNat : Int)) := hdpA 19 _ 72 zy rfl rfl
  clear hbsA hdpA
  have hOA : Own wA base 57 1 v n ((dk.setIfInBounds (fi + rt) dk[(fi + ((2 * rt) + 1))]!).toList.map u64v) := hOA
  refine op_store_own (vs := [(.int .u64 (dk[(fi + rt)]!.toNat : Int))]) size57 (zC hNA rfl af) (zC hNA rfl aj) rfl rfl rfl hOA ag (by have := hOA.1; simp at this ⊢; omega) ?_
  intro w_ hO_ E_
  exact obW_end rfl (hO_.cast rfl (set_arr (by first | omega | (simp only [Array.size_setIfInBounds, swp_sz, siftDown_size]; omega)))) E_
 intro x s g q l t p r
 have q := q.trans m
 have m := (l 0 rfl).trans (zL c rfl k)
 have k := (l 2 rfl).trans (zL c rfl o)
 have o := (l 3 rfl).trans (zL c rfl f)
 have f := (l 9 rfl).trans (zU c rfl)
 clear l t
 have p : Own s base 57 1 v n (((dk.setIfInBounds (fi + rt) dk[(fi + ((2 * rt) + 1))]!).setIfInBounds (fi + ((2 * rt) + 1)) dk[(fi + rt)]!).toList.map u64v) := p
 have := r.size
 have hb := grow_stepX hb r rfl
 refine a _ _ (zH (zG (zC g rfl f) (zD (zA g rfl) (zB (blk_normal ?_)))))
 -- round 16F 20F 52F
 have hch : childS hi fi rt dk = 2 * rt + 1 := childS_f (.inl zx)
 exact zg _ g q ⟨(2 * rt + 1), _, rfl, (zL g rfl m), (zL g rfl k), (zL g rfl o), (zU g rfl).trans (congrArg (Value.int .i64) zx), (by first | assumption | (simp only [Array.size_setIfInBounds, swp_sz, siftDown_size]; assumption)), zx, (hs.trans ((siftDown_go zx (by rw [hch]; simpa [Nat.add_assoc] using u)).trans (by rw [hch]; rfl))), hb, zx, p⟩ zx
open Go.Sort (insertionSort insOuter insInner swp siftDown heapSort heapBuild heapPop scanUp scanDown partition partLoop partitionEqual partEqLoop scanSorted partialIns bitsLen partialInsertionSort shiftDown shiftUp SortedIn reverseRange reverseLoop fixDown fixUp)
theorem heapW_ret (d : Ar) (v : Value) (n base : Nat) (a b : Nat) (w : World) (hd : d.size = n) (hn : n ≤ 4000000000000000000) (O : Own w base 57 1 v n (d.toList.map u64v)) (hab : a ≤ b) (hbn : b ≤ n) : Ret Try.prog 68 #[v, (.int .i64 ((a : Nat) : Int)), (.int .i64 ((b : Nat) : Int))] w (fun v' w' => w.grownBy w' v.ownBlock ∧ v' = .tuple #[] ∧ Own w' base 57 1 v n ((heapSort ltT d a b).toList.map u64v)) := by
 have hb := grown_refl w v.ownBlock
 refine enter (N := 56) Try.func68 rfl rfl (by simp) fun c hN hd hA => ?_
 have f : c.tmps.getD 0 undef = v := hA 0 (by simp)
 have g : c.tmps.getD 1 undef = (.int .i64 ((a : Nat) : Int)) := hA 1 (by simp)
 have j : c.tmps.getD 2 undef = (.int .i64 ((b : Nat) : Int)) := hA 2 (by simp)
 clear hA
 refine zF fun _ c => zH (zG (zC hN rfl g) (zD (zA hN rfl) (zB (c _ _ (zF fun _ c => ?_)))))
 refine zH (zD rfl (zB (c _ _ (zF fun _ c => zH (zG (zC hN rfl j) (zG (zC hN rfl g) (op_sub (r := ((b - a : Nat) : Int)) (zA hN rfl) (zA hN rfl) (by rw [IntKind.wrap_i64]; omega) (zD (zA hN rfl) (zB ?_)))))))))
 refine c _ _ (zF fun _ c => zF fun _ g => zH (zG (zA hN rfl) (op_sub (zA hN rfl) rfl (sub64 zx) (op_quo (r := (((b - a - 1) / 2 : Nat) : Int)) (zA hN rfl) rfl zz (by rw [tdiv2, IntKind.wrap_i64]; omega) (zD (zA hN rfl) (zB (g _ _ (wp_block (loop_m (fun mz_ az_ w' => ∃ (k : Nat) (dk : Ar), mz_ = (k + 1) ∧ (Sl az_ 0 v) ∧ (Sl az_ 6 (.int .i64 ((a : Nat) : Int))) ∧ (Sl az_ 7 (.int .i64 0)) ∧ (Sl az_ 8 (.int .i64 ((b - a : Nat) : Int))) ∧ (Sl az_ 9 (.int .i64 (((k : Nat) : Int) - 1))) ∧ (dk.size = n) ∧ (k ≤ (b - a - 1) / 2 + 1) ∧ (heapBuild ltT (b - a) a ((b - a - 1) / 2 + 1) d = heapBuild ltT (b - a) a k dk) ∧ (w.grownBy w' v.ownBlock) ∧ (w.heap.size ≤ w'.heap.size) ∧ (Own w' base 57 1 v n (dk.toList.map u64v))) _ hN hd ⟨((b - a - 1) / 2 + 1), _, rfl, (zL hN rfl f), (zU hN rfl), (zU hN rfl), (zU hN rfl), (zU hN rfl).trans (congrArg (Value.int .i64) zx), (by first | assumption | (simp only [Array.size_setIfInBounds, swp_sz, siftDown_size]; assumption)), Nat.le_refl _, rfl, hb, (Nat.le_refl _), O⟩ ?_)))))))))
 rintro _ x u f p ⟨k, dk, rfl, o, m, s, l, j, hdk, hk, hs, hb, y, t⟩
 have := hb.size
 refine zF fun _ g => zF fun _ x => zH (zG (zC f rfl j) (op_geq (zA f rfl) rfl (fun y => ?_) (fun y => ?_)))
 ·
  refine zB (x _ _ (wp_cond_true (zA f rfl) (wp_skip (g _ _ (zF fun _ g => wp_block ?_)))))
  refine zH (zG (zC f rfl o) (zG ((zC f rfl j).trans (congrArg (Value.int .i64) (show _ = ((k - 1 : Nat) : Int) by omega))) (zG (zC f rfl l) (zG (zC f rfl m) (zj ok87 (siftDownW_ret dk _ _ _ (k - 1) (b - a) a _ (by first | assumption | (simp only [Array.size_setIfInBounds, swp_sz, siftDown_size]; assumption)) zx t zx zx) ⟨(zA f rfl), ⟨(zA f rfl), ⟨(zA f rfl), ⟨(zA f rfl), trivial⟩⟩⟩⟩ ?_)))))
  rintro _ A ⟨y, rfl, z⟩
  have := y.size
  have hb := grow_stepX hb y rfl
  refine zB (g _ _ (zH (zG (zC f rfl j) (op_sub (zA f rfl) rfl (sub64 zx) (zD (zA f rfl) (zB ?_))))))
  -- round 19T
  exact zg _ f p ⟨(k - 1), _, rfl, (zL f rfl o), (zL f rfl m), (zL f rfl s), (zL f rfl l), (zU f rfl).trans (congrArg (Value.int .i64) zx), (by first | assumption | (simp only [Array.size_setIfInBounds, swp_sz, siftDown_size]; assumption)), zx, (hs.trans (heapBuild_go' zx)), hb, zx, z⟩ zx
 refine zB (x _ _ (wp_cond_false (zA f rfl) (wp_exit (then_exit (then_exit (blk_hit (c _ _ (zF fun _ c => zH (zG (zC f rfl l) (op_sub (zA f rfl) rfl (sub64 zx) (zD (zA f rfl) (zB (c _ _ (wp_block (loop_m (fun mz_ az_ w' => ∃ (q : Nat) (dj : Ar), mz_ = (q + 1) ∧ (Sl az_ 0 v) ∧ (Sl az_ 6 (.int .i64 ((a : Nat) : Int))) ∧ (Sl az_ 7 (.int .i64 0)) ∧ (Sl az_ 10 (.int .i64 (((q : Nat) : Int) - 1))) ∧ (dj.size = n) ∧ (q ≤ b - a) ∧ (heapPop ltT a (b - a) (heapBuild ltT (b - a) a ((b - a - 1) / 2 + 1) d) = heapPop ltT a q dj) ∧ (w.grownBy w' v.ownBlock) ∧ (u.heap.size ≤ w'.heap.size) ∧ (Own w' base 57 1 v n (dj.toList.map u64v))) _ f p ⟨(b - a), _, rfl, (zL f rfl o), (zL f rfl m), (zL f rfl s), (zU f rfl).trans (congrArg (Value.int .i64) zx), (by first | assumption | (simp only [Array.size_setIfInBounds, swp_sz, siftDown_size]; assumption)), Nat.le_refl _, (congrArg (heapPop ltT a (b - a)) (hs.trans (by rw [show k = 0 by omega]; rfl))), hb, (Nat.le_refl _), t⟩ ?_)))))))))))))))
 rintro _ x u f o ⟨q, dj, rfl, l, j, t, m, hdj, hk, s, hb, y, p⟩
 have := hb.size
 refine zF fun _ c => zF fun _ g => zH (zG (zC f rfl m) (op_geq (zA f rfl) rfl (fun u => ?_) (fun u => ?_)))
 ·
  refine zB (g _ _ (wp_cond_true (zA f rfl) (wp_skip (c _ _ (zF fun _ c => wp_block (zF fun _ g => reg_mid (e := 57) (sz := 1) (base := base) (n := n) (v := v) (Φ := phiL [(fun uz _ => uz = v), (fun uz _ => uz = (.int .i64 ((a : Nat) : Int))), (fun uz _ => uz = v), (fun uz _ => uz = (.int .i64 ((a : Nat) : Int))), (fun uz _ => uz = (.int .i64 ((q - 1 : Nat) : Int))), (fun uz _ => uz = (.int .i64 (((a : Nat) : Int) + ((q - 1 : Nat) : Int)))), (fun uz _ => uz = v), (fun uz _ => uz = (.int .i64 ((a : Nat) : Int))), (fun uz _ => uz = (.int .i64 ((q - 1 : Nat) : Int))), (fun uz _ => uz = (.int .i64 (((a : Nat) : Int) + ((q - 1 : Nat) : Int)))), (fun uz _ => ∃ bz oz, uz = ptr bz oz ∧ AtV v (a + (q - 1)) bz oz), (fun uz _ => uz = (.int .u64 (dj[(a + (q - 1))]!.toNat : Int))), (fun uz _ => uz = v), (fun uz _ => uz = (.int .i64 ((a : Nat) : Int))), (fun uz _ => ∃ bz oz, uz = ptr bz oz ∧ AtV v a bz oz), (fun uz _ => uz = (.int .u64 (dj[a]!.toNat : Int))), (fun uz _ => ∃ bz oz, uz = ptr bz oz ∧ AtV v a bz oz), (fun _ _ => True), (fun uz _ => ∃ bz oz, uz = ptr bz oz ∧ AtV v (a + (q - 1)) bz oz), (fun _ _ => True)]) [17, 19] [(dj.toList.map u64v), ((dj.setIfInBounds a dj[(a + (q - 1))]!).toList.map u64v), (((dj.setIfInBounds a dj[(a + (q - 1))]!).setIfInBounds (a + (q - 1)) dj[a]!).toList.map u64v)] mixed zy zy zy zy f p (StL.get (StL.eq (StL.eq (StL.eq (StL.eq (StL.eq (StL.eq (StL.eq (StL.eq (StL.eq (StL.eq (StL.at (StL.eq (StL.eq (StL.eq (StL.at (StL.eq (StL.at (StL.cons (fun _ _ _ _ h => h) (StL.at (StL.cons (fun _ _ _ _ h => h) (StL.nil _)))))))))))))))))))))) (ObRs.get (ObRs.cons ?_ (ObRs.cons ?_ (ObRs.cons ?_ (ObRs.cons ?_ (ObRs.cons ?_ (ObRs.cons ?_ (ObRs.cons ?_ (ObRs.cons ?_ (ObRs.cons ?_ (ObRs.cons ?_ (ObRs.cons ?_ (ObRs.cons ?_ (ObRs.cons ?_ (ObRs.cons ?_ (ObRs.cons ?_ (ObRs.cons ?_ (ObRs.cons ?_ (ObRs.pass rfl (ObRs.cons ?_ (ObRs.pass rfl (ObRs.nil)))))))))))))))))))))) (ObWs.get (ObWs.cons ?_ (ObWs.cons ?_ (ObWs.nil)))) ?_))))))
  ·
   intro aA wA cA hNA hRA hckA hOA hbsA hdpA
   have u := (hbsA 0 rfl).trans (zL f rfl l)
   clear hbsA hdpA
   refine zG (zC hNA rfl u) ?_
   exact obR_end rfl rfl (grown_refl _ _)
  ·
   intro aA wA cA hNA hRA hckA hOA hbsA hdpA
   have x := (hbsA 6 rfl).trans (zL f rfl j)
   clear hbsA hdpA
   refine zG (zC hNA rfl x) ?_
   exact obR_end rfl rfl (grown_refl _ _)
  ·
   intro aA wA cA hNA hRA hckA hOA hbsA hdpA
   have u := (hbsA 0 rfl).trans (zL f rfl l)
   clear hbsA hdpA
   refine zG (zC hNA rfl u) ?_
   exact obR_end rfl rfl (grown_refl _ _)
  ·
   intro aA wA cA hNA hRA hckA hOA hbsA hdpA
   have x := (hbsA 6 rfl).trans (zL f rfl j)
   clear hbsA hdpA
   refine zG (zC hNA rfl x) ?_
   exact obR_end rfl rfl (grown_refl _ _)
  ·
   intro aA wA cA hNA hRA hckA hOA hbsA hdpA
   have y := (hbsA 10 rfl).trans (zL f rfl m)
   clear hbsA hdpA
   refine zG ((zC hNA rfl y).trans (congrArg (Value.int .i64) (show _ = ((q - 1 : Nat) : Int) by omega))) ?_
   exact obR_end rfl rfl (grown_refl _ _)
  ·
   intro aA wA cA hNA hRA hckA hOA hbsA hdpA
   have z : Sl aA 36 (.int .i64 ((a : Nat) : Int)) := hdpA 3 _ 36 zy rfl rfl
   have A : Sl aA 37 (.int .i64 ((q - 1 : Nat) : Int)) := hdpA 4 _ 37 zy rfl rfl
   clear hbsA hdpA
   refine op_add (zC hNA rfl z) (zC hNA rfl A) (add64 zx) ?_
   exact obR_end rfl rfl (grown_refl _ _)
  ·
   intro aA wA cA hNA hRA hckA hOA hbsA hdpA
   have u := (hbsA 0 rfl).trans (zL f rfl l)
   clear hbsA hdpA
   refine zG (zC hNA rfl u) ?_
   exact obR_end rfl rfl (grown_refl _ _)
  ·
   intro aA wA cA hNA hRA hckA hOA hbsA hdpA
   have x := (hbsA 6 rfl).trans (zL f rfl j)
   clear hbsA hdpA
   refine zG (zC hNA rfl x) ?_
   exact obR_end rfl rfl (grown_refl _ _)
  ·
   intro aA wA cA hNA hRA hckA hOA hbsA hdpA
   have y := (hbsA 10 rfl).trans (zL f rfl m)
   clear hbsA hdpA
   refine zG ((zC hNA rfl y).trans (congrArg (Value.int .i64) (show _ = ((q - 1 : Nat) : Int) by omega))) ?_
   exact obR_end rfl rfl (grown_refl _ _)
  ·
   intro aA wA cA hNA hRA hckA hOA hbsA hdpA
   have y : Sl aA 40 (.int .i64 ((a : Nat) : Int)) := hdpA 7 _ 40 zy rfl rfl
   have z : Sl aA 41 (.int .i64 ((q - 1 : Nat) : Int)) := hdpA 8 _ 41 zy rfl rfl
   clear hbsA hdpA
   refine op_add (zC hNA rfl y) (zC hNA rfl z) (add64 zx) ?_
   exact obR_end rfl rfl (grown_refl _ _)
  ·
   intro aA wA cA hNA hRA hckA hOA hbsA hdpA
   have y : Sl aA 39 v := hdpA 6 _ 39 zy rfl rfl
   have z : Sl aA 42 (.int .i64 (((a : Nat) : Int) + ((q - 1 : Nat) : Int))) := hdpA 9 _ 42 zy rfl rfl
   clear hbsA hdpA
   refine op_index_own (i := (a + (q - 1))) slt62 (zC hNA rfl y) hOA (zC hNA rfl z) zx zx ?_
   intro b_ o_ _ hA_
   exact obR_end rfl ⟨b_, o_, rfl, by simpa using hA_⟩ (grown_refl _ _)
  ·
   intro aA wA cA hNA hRA hckA hOA hbsA hdpA
   obtain ⟨A, B, z, y⟩ := hdpA 10 _ 43 zy rfl rfl
   clear hbsA hdpA
   obtain rfl : cA = 0 := Nat.le_zero.1 (hckA 0 17 rfl zy)
   have hOA : Own wA base 57 1 v n (dj.toList.map u64v) := hOA
   refine zN (v := (Value.int .u64 (dj[(a + (q - 1))]!.toNat : Int))) one57 (zC hNA rfl z) (by have := hOA.cellAt y 0 _ (el_at (i := (a + (q - 1))) (by first | omega | (simp only [Array.size_setIfInBounds, swp_sz, siftDown_size]; omega))); simpa using this) ?_
   exact obR_end rfl rfl (grown_refl _ _)
  ·
   intro aA wA cA hNA hRA hckA hOA hbsA hdpA
   have u := (hbsA 0 rfl).trans (zL f rfl l)
   clear hbsA hdpA
   refine zG (zC hNA rfl u) ?_
   exact obR_end rfl rfl (grown_refl _ _)
  ·
   intro aA wA cA hNA hRA hckA hOA hbsA hdpA
   have x := (hbsA 6 rfl).trans (zL f rfl j)
   clear hbsA hdpA
   refine zG (zC hNA rfl x) ?_
   exact obR_end rfl rfl (grown_refl _ _)
  ·
   intro aA wA cA hNA hRA hckA hOA hbsA hdpA
   have u : Sl aA 45 v := hdpA 12 _ 45 zy rfl rfl
   have x : Sl aA 46 (.int .i64 ((a : Nat) : Int)) := hdpA 13 _ 46 zy rfl rfl
   clear hbsA hdpA
   refine op_index_own (i := a) slt62 (zC hNA rfl u) hOA (zC hNA rfl x) zx zx ?_
   intro b_ o_ _ hA_
   exact obR_end rfl ⟨b_, o_, rfl, by simpa using hA_⟩ (grown_refl _ _)
  ·
   intro aA wA cA hNA hRA hckA hOA hbsA hdpA
   obtain ⟨z, y, x, u⟩ := hdpA 14 _ 47 zy rfl rfl
   clear hbsA hdpA
   obtain rfl : cA = 0 := Nat.le_zero.1 (hckA 0 17 rfl zy)
   have hOA : Own wA base 57 1 v n (dj.toList.map u64v) := hOA
   refine zN (v := (Value.int .u64 (dj[a]!.toNat : Int))) one57 (zC hNA rfl x) (by have := hOA.cellAt u 0 _ (el_at (i := a) (by first | omega | (simp only [Array.size_setIfInBounds, swp_sz, siftDown_size]; omega))); simpa using this) ?_
   exact obR_end rfl rfl (grown_refl _ _)
  ·
   intro aA wA cA hNA hRA hckA hOA hbsA hdpA
   have u : Sl aA 33 v := hdpA 0 _ 33 zy rfl rfl
   have x : Sl aA 34 (.int .i64 ((a : Nat) : Int)) := hdpA 1 _ 34 zy rfl rfl
   clear hbsA hdpA
   refine op_index_own (i := a) slt62 (zC hNA rfl u) hOA (zC hNA rfl x) zx zx ?_
   intro b_ o_ _ hA_
   exact obR_end rfl ⟨b_, o_, rfl, by simpa using hA_⟩ (grown_refl _ _)
  ·
   intro aA wA cA hNA hRA hckA hOA hbsA hdpA
   have u : Sl aA 35 v := hdpA 2 _ 35 zy rfl rfl
   have x : Sl aA 38 (.int .i64 (((a : Nat) : Int) + ((q - 1 : Nat) : Int))) := hdpA 5 _ 38 zy rfl rfl
   clear hbsA hdpA
   refine op_index_own (i := (a + (q - 1))) slt62 (zC hNA rfl u) hOA (zC hNA rfl x) zx zx ?_
   intro b_ o_ _ hA_
   exact obR_end rfl ⟨b_, o_, rfl, by simpa using hA_⟩ (grown_refl _ _)
  ·
   intro o_ ho_; obtain rfl := zE ho_; intro aA wA hNA hRA hbsA hdpA hOA
   obtain ⟨y, z, x, u⟩ := hdpA 16 _ 49 zy rfl rfl
   have y : Sl aA 44 (.int .u64 (dj[(a + (q - 1))]!.toNat : Int)) := hdpA 11 _ 44 zy rfl rfl
   clear hbsA hdpA
   have hOA : Own wA base 57 1 v n (dj.toList.map u64v) := hOA
   refine op_store_own (vs := [(.int .u64 (dj[(a + (q - 1))]!.toNat : Int))]) size57 (zC hNA rfl x) (zC hNA rfl y) rfl rfl rfl hOA u (by have := hOA.1; simp at this ⊢; omega) ?_
   intro w_ hO_ E_
   exact obW_end rfl (hO_.cast rfl (set_arr (by first | omega | (simp only [Array.size_setIfInBounds, swp_sz, siftDown_size]; omega)))) E_
  ·
   intro o_ ho_; obtain rfl := zE ho_; intro aA wA hNA hRA hbsA hdpA hOA
   obtain ⟨z, y, x, u⟩ := hdpA 18 _ 50 zy rfl rfl
   have y : Sl aA 48 (.int .u64 (dj[a]!.toNat : Int)) := hdpA 15 _ 48 zy rfl rfl
   clear hbsA hdpA
   have hOA : Own wA base 57 1 v n ((dj.setIfInBounds a dj[(a + (q - 1))]!).toList.map u64v) := hOA
   refine op_store_own (vs := [(.int .u64 (dj[a]!.toNat : Int))]) size57 (zC hNA rfl x) (zC hNA rfl y) rfl rfl rfl hOA u (by have := hOA.1; simp at this ⊢; omega) ?_
   intro w_ hO_ E_
   exact obW_end rfl (hO_.cast rfl (set_arr (by first | omega | (simp only [Array.size_setIfInBounds, swp_sz, siftDown_size]; omega)))) E_
  intro D C u y x B z A
  have y := y.trans o
  have D := (x 0 rfl).trans (zL f rfl l)
  have l := (x 6 rfl).trans (zL f rfl j)
  have j := (x 7 rfl).trans (zL f rfl t)
  have t := (x 10 rfl).trans (zL f rfl m)
  clear x B
  have z : Own C base 57 1 v n (((dj.setIfInBounds a dj[(a + (q - 1))]!).setIfInBounds (a + (q - 1)) dj[a]!).toList.map u64v) := z
  have := A.size
  have hb := grow_stepX hb A rfl
  refine g _ _ (zH (zG (zC u rfl D) (zG (zC u rfl j) (zG ((zC u rfl t).trans (congrArg (Value.int .i64) (show _ = ((q - 1 : Nat) : Int) by omega))) (zG (zC u rfl l) (zj ok87 (siftDownW_ret ((dj.setIfInBounds a dj[(a + (q - 1))]!).setIfInBounds (a + (q - 1)) dj[a]!) _ _ _ 0 (q - 1) a _ (by first | assumption | (simp only [Array.size_setIfInBounds, swp_sz, siftDown_size]; assumption)) zx z zx zx) ⟨(zA u rfl), ⟨(zA u rfl), ⟨(zA u rfl), ⟨(zA u rfl), trivial⟩⟩⟩⟩ ?_))))))
  rintro _ z ⟨m, rfl, x⟩
  have := m.size
  have hb := grow_stepX hb m rfl
  refine zB (c _ _ (zH (zG (zC u rfl t) (op_sub (zA u rfl) rfl (sub64 zx) (zD (zA u rfl) (zB ?_))))))
  -- round 19F 30T
  exact zg _ u y ⟨(q - 1), _, rfl, (zL u rfl D), (zL u rfl l), (zL u rfl j), (zU u rfl).trans (congrArg (Value.int .i64) zx), (by first | assumption | (simp only [Array.size_setIfInBounds, swp_sz, siftDown_size]; assumption)), zx, (s.trans (heapPop_go' zx)), hb, zx, x⟩ zx
 refine zB (g _ _ (wp_cond_false (zA f rfl) (wp_exit (then_exit (then_exit (blk_hit (end_ret (ret0 rfl o  ⟨_, rfl, ?_⟩))))))))
 exact ⟨hb, rfl, p.cast rfl (by rw [show heapSort ltT d a b = heapPop ltT a (b - a) (heapBuild ltT (b - a) a ((b - a - 1) / 2 + 1) d) from rfl, s, show q = 0 by omega]; rfl)⟩
open Go.Sort (insertionSort insOuter insInner swp siftDown heapSort heapBuild heapPop scanUp scanDown partition partLoop partitionEqual partEqLoop scanSorted partialIns bitsLen partialInsertionSort shiftDown shiftUp SortedIn reverseRange reverseLoop fixDown fixUp)
theorem revW_ret (d : Ar) (v : Value) (n base : Nat) (a b : Nat) (w : World) (hd : d.size = n) (hn : n ≤ 4000000000000000000) (O : Own w base 57 1 v n (d.toList.map u64v)) (hab : a < b) (hbn : b ≤ n) : Ret Try.prog 71 #[v, (.int .i64 ((a : Nat) : Int)), (.int .i64 ((b : Nat) : Int))] w (fun v' w' => w.grownBy w' v.ownBlock ∧ v' = .tuple #[] ∧ Own w' base 57 1 v n ((reverseRange d a b).toList.map u64v)) := by
 have hb := grown_refl w v.ownBlock
 refine enter (N := 32) Try.func71 rfl rfl (by simp) fun c hN hd hA => ?_
 have f : c.tmps.getD 0 undef = v := hA 0 (by simp)
 have g : c.tmps.getD 1 undef = (.int .i64 ((a : Nat) : Int)) := hA 1 (by simp)
 have j : c.tmps.getD 2 undef = (.int .i64 ((b : Nat) : Int)) := hA 2 (by simp)
 clear hA
 refine zF fun _ c => zH (zG (zC hN rfl g) ?_)
 refine zD (zA hN rfl) (zB (c _ _ (zF fun _ c => zH (zG (zC hN rfl j) (op_sub (r := ((b - 1 : Nat) : Int)) (zA hN rfl) rfl (by rw [IntKind.wrap_i64]; omega) (zD (zA hN rfl) (zB (c _ _ (wp_block (loop_m (fun mz_ az_ w' => ∃ (ix jx : Nat) (dk : Ar), mz_ = (jx + 1 - ix) ∧ (Sl az_ 0 v) ∧ (Sl az_ 6 (.int .i64 ((ix : Nat) : Int))) ∧ (Sl az_ 7 (.int .i64 ((jx : Nat) : Int))) ∧ (dk.size = n) ∧ (a ≤ ix ∧ jx < b) ∧ (reverseLoop a (b - 1) d = reverseLoop ix jx dk) ∧ (w.grownBy w' v.ownBlock) ∧ (w.heap.size ≤ w'.heap.size) ∧ (Own w' base 57 1 v n (dk.toList.map u64v))) _ hN hd ⟨a, (b - 1), _, rfl, (zL hN rfl f), (zU hN rfl).trans (congrArg (Value.int .i64) zx), (zU hN rfl).trans (congrArg (Value.int .i64) zx), (by first | assumption | (simp only [Array.size_setIfInBounds, swp_sz, siftDown_size]; assumption)), zx, rfl, hb, (Nat.le_refl _), O⟩ ?_))))))))))
 rintro _ o q f m ⟨ix, jx, dk, rfl, g, j, k, hdk, hrng, hs, hb, p, l⟩
 have := hb.size
 refine zF fun _ c => zF fun _ o => zH (zG (zC f rfl j) (zG (zC f rfl k) (op_lss (zA f rfl) (zA f rfl) (fun p => ?_) (fun p => ?_))))
 ·
  refine zB (o _ _ (wp_cond_true (zA f rfl) (wp_skip (c _ _ (wp_block (zF fun _ c => reg_mid (e := 57) (sz := 1) (base := base) (n := n) (v := v) (Φ := phiL [(fun uz _ => uz = v), (fun uz _ => uz = (.int .i64 ((ix : Nat) : Int))), (fun uz _ => uz = v), (fun uz _ => uz = (.int .i64 ((jx : Nat) : Int))), (fun uz _ => uz = v), (fun uz _ => uz = (.int .i64 ((jx : Nat) : Int))), (fun uz _ => ∃ bz oz, uz = ptr bz oz ∧ AtV v jx bz oz), (fun uz _ => uz = (.int .u64 (dk[jx]!.toNat : Int))), (fun uz _ => uz = v), (fun uz _ => uz = (.int .i64 ((ix : Nat) : Int))), (fun uz _ => ∃ bz oz, uz = ptr bz oz ∧ AtV v ix bz oz), (fun uz _ => uz = (.int .u64 (dk[ix]!.toNat : Int))), (fun uz _ => ∃ bz oz, uz = ptr bz oz ∧ AtV v ix bz oz), (fun _ _ => True), (fun uz _ => ∃ bz oz, uz = ptr bz oz ∧ AtV v jx bz oz), (fun _ _ => True)]) [13, 15] [(dk.toList.map u64v), ((dk.setIfInBounds ix dk[jx]!).toList.map u64v), (((dk.setIfInBounds ix dk[jx]!).setIfInBounds jx dk[ix]!).toList.map u64v)] mixed zy zy zy zy f l (StL.get (StL.eq (StL.eq (StL.eq (StL.eq (StL.eq (StL.eq (StL.at (StL.eq (StL.eq (StL.eq (StL.at (StL.eq (StL.at (StL.cons (fun _ _ _ _ h => h) (StL.at (StL.cons (fun _ _ _ _ h => h) (StL.nil _)))))))))))))))))) (ObRs.get (ObRs.cons ?_ (ObRs.cons ?_ (ObRs.cons ?_ (ObRs.cons ?_ (ObRs.cons ?_ (ObRs.cons ?_ (ObRs.cons ?_ (ObRs.cons ?_ (ObRs.cons ?_ (ObRs.cons ?_ (ObRs.cons ?_ (ObRs.cons ?_ (ObRs.cons ?_ (ObRs.pass rfl (ObRs.cons ?_ (ObRs.pass rfl (ObRs.nil)))))))))))))))))) (ObWs.get (ObWs.cons ?_ (ObWs.cons ?_ (ObWs.nil)))) ?_))))))
  ·
   intro aA wA cA hNA hRA hckA hOA hbsA hdpA
   have p := (hbsA 0 rfl).trans (zL f rfl g)
   clear hbsA hdpA
   refine zG (zC hNA rfl p) ?_
   exact obR_end rfl rfl (grown_refl _ _)
  ·
   intro aA wA cA hNA hRA hckA hOA hbsA hdpA
   have q := (hbsA 6 rfl).trans (zL f rfl j)
   clear hbsA hdpA
   refine zG (zC hNA rfl q) ?_
   exact obR_end rfl rfl (grown_refl _ _)
  ·
   intro aA wA cA hNA hRA hckA hOA hbsA hdpA
   have p := (hbsA 0 rfl).trans (zL f rfl g)
   clear hbsA hdpA
   refine zG (zC hNA rfl p) ?_
   exact obR_end rfl rfl (grown_refl _ _)
  ·
   intro aA wA cA hNA hRA hckA hOA hbsA hdpA
   have s := (hbsA 7 rfl).trans (zL f rfl k)
   clear hbsA hdpA
   refine zG (zC hNA rfl s) ?_
   exact obR_end rfl rfl (grown_refl _ _)
  ·
   intro aA wA cA hNA hRA hckA hOA hbsA hdpA
   have p := (hbsA 0 rfl).trans (zL f rfl g)
   clear hbsA hdpA
   refine zG (zC hNA rfl p) ?_
   exact obR_end rfl rfl (grown_refl _ _)
  ·
   intro aA wA cA hNA hRA hckA hOA hbsA hdpA
   have s := (hbsA 7 rfl).trans (zL f rfl k)
   clear hbsA hdpA
   refine zG (zC hNA rfl s) ?_
   exact obR_end rfl rfl (grown_refl _ _)
  ·
   intro aA wA cA hNA hRA hckA hOA hbsA hdpA
   have s : Sl aA 18 v := hdpA 4 _ 18 zy rfl rfl
   have t : Sl aA 19 (.int .i64 ((jx : Nat) : Int)) := hdpA 5 _ 19 zy rfl rfl
   clear hbsA hdpA
   refine op_index_own (i := jx) slt62 (zC hNA rfl s) hOA (zC hNA rfl t) zx zx ?_
   intro b_ o_ _ hA_
   exact obR_end rfl ⟨b_, o_, rfl, by simpa using hA_⟩ (grown_refl _ _)
  ·
   intro aA wA cA hNA hRA hckA hOA hbsA hdpA
   obtain ⟨u, x, t, s⟩ := hdpA 6 _ 20 zy rfl rfl
   clear hbsA hdpA
   obtain rfl : cA = 0 := Nat.le_zero.1 (hckA 0 13 rfl zy)
   have hOA : Own wA base 57 1 v n (dk.toList.map u64v) := hOA
   refine zN (v := (Value.int .u64 (dk[jx]!.toNat : Int))) one57 (zC hNA rfl t) (by have := hOA.cellAt s 0 _ (el_at (i := jx) (by first | omega | (simp only [Array.size_setIfInBounds, swp_sz, siftDown_size]; omega))); simpa using this) ?_
   exact obR_end rfl rfl (grown_refl _ _)
  ·
   intro aA wA cA hNA hRA hckA hOA hbsA hdpA
   have p := (hbsA 0 rfl).trans (zL f rfl g)
   clear hbsA hdpA
   refine zG (zC hNA rfl p) ?_
   exact obR_end rfl rfl (grown_refl _ _)
  ·
   intro aA wA cA hNA hRA hckA hOA hbsA hdpA
   have q := (hbsA 6 rfl).trans (zL f rfl j)
   clear hbsA hdpA
   refine zG (zC hNA rfl q) ?_
   exact obR_end rfl rfl (grown_refl _ _)
  ·
   intro aA wA cA hNA hRA hckA hOA hbsA hdpA
   have p : Sl aA 22 v := hdpA 8 _ 22 zy rfl rfl
   have q : Sl aA 23 (.int .i64 ((ix : Nat) : Int)) := hdpA 9 _ 23 zy rfl rfl
   clear hbsA hdpA
   refine op_index_own (i := ix) slt62 (zC hNA rfl p) hOA (zC hNA rfl q) zx zx ?_
   intro b_ o_ _ hA_
   exact obR_end rfl ⟨b_, o_, rfl, by simpa using hA_⟩ (grown_refl _ _)
  ·
   intro aA wA cA hNA hRA hckA hOA hbsA hdpA
   obtain ⟨t, s, p, q⟩ := hdpA 10 _ 24 zy rfl rfl
   clear hbsA hdpA
   obtain rfl : cA = 0 := Nat.le_zero.1 (hckA 0 13 rfl zy)
   have hOA : Own wA base 57 1 v n (dk.toList.map u64v) := hOA
   refine zN (v := (Value.int .u64 (dk[ix]!.toNat : Int))) one57 (zC hNA rfl p) (by have := hOA.cellAt q 0 _ (el_at (i := ix) (by first | omega | (simp only [Array.size_setIfInBounds, swp_sz, siftDown_size]; omega))); simpa using this) ?_
   exact obR_end rfl rfl (grown_refl _ _)
  ·
   intro aA wA cA hNA hRA hckA hOA hbsA hdpA
   have p : Sl aA 14 v := hdpA 0 _ 14 zy rfl rfl
   have q : Sl aA 15 (.int .i64 ((ix : Nat) : Int)) := hdpA 1 _ 15 zy rfl rfl
   clear hbsA hdpA
   refine op_index_own (i := ix) slt62 (zC hNA rfl p) hOA (zC hNA rfl q) zx zx ?_
   intro b_ o_ _ hA_
   exact obR_end rfl ⟨b_, o_, rfl, by simpa using hA_⟩ (grown_refl _ _)
  ·
   intro aA wA cA hNA hRA hckA hOA hbsA hdpA
   have p : Sl aA 16 v := hdpA 2 _ 16 zy rfl rfl
   have q : Sl aA 17 (.int .i64 ((jx : Nat) : Int)) := hdpA 3 _ 17 zy rfl rfl
   clear hbsA hdpA
   refine op_index_own (i := jx) slt62 (zC hNA rfl p) hOA (zC hNA rfl q) zx zx ?_
   intro b_ o_ _ hA_
   exact obR_end rfl ⟨b_, o_, rfl, by simpa using hA_⟩ (grown_refl _ _)
  ·
   intro o_ ho_; obtain rfl := zE ho_; intro aA wA hNA hRA hbsA hdpA hOA
   obtain ⟨t, s, q, p⟩ := hdpA 12 _ 26 zy rfl rfl
   have s : Sl aA 21 (.int .u64 (dk[jx]!.toNat : Int)) := hdpA 7 _ 21 zy rfl rfl
   clear hbsA hdpA
   have hOA : Own wA base 57 1 v n (dk.toList.map u64v) := hOA
   refine op_store_own (vs := [(.int .u64 (dk[jx]!.toNat : Int))]) size57 (zC hNA rfl q) (zC hNA rfl s) rfl rfl rfl hOA p (by have := hOA.1; simp at this ⊢; omega) ?_
   intro w_ hO_ E_
   exact obW_end rfl (hO_.cast rfl (set_arr (by first | omega | (simp only [Array.size_setIfInBounds, swp_sz, siftDown_size]; omega)))) E_
  ·
   intro o_ ho_; obtain rfl := zE ho_; intro aA wA hNA hRA hbsA hdpA hOA
   obtain ⟨s, t, p, q⟩ := hdpA 14 _ 27 zy rfl rfl
   have s : Sl aA 25 (.int .u64 (dk[ix]!.toNat : Int)) := hdpA 11 _ 25 zy rfl rfl
   clear hbsA hdpA
   have hOA : Own wA base 57 1 v n ((dk.setIfInBounds ix dk[jx]!).toList.map u64v) := hOA
   refine op_store_own (vs := [(.int .u64 (dk[ix]!.toNat : Int))]) size57 (zC hNA rfl p) (zC hNA rfl s) rfl rfl rfl hOA q (by have := hOA.1; simp at this ⊢; omega) ?_
   intro w_ hO_ E_
   exact obW_end rfl (hO_.cast rfl (set_arr (by first | omega | (simp only [Array.size_setIfInBounds, swp_sz, siftDown_size]; omega)))) E_
  intro z x p s q y t u
  have s := s.trans m
  have z := (q 0 rfl).trans (zL f rfl g)
  have g := (q 6 rfl).trans (zL f rfl j)
  have j := (q 7 rfl).trans (zL f rfl k)
  clear q y
  have t : Own x base 57 1 v n (((dk.setIfInBounds ix dk[jx]!).setIfInBounds jx dk[ix]!).toList.map u64v) := t
  have := u.size
  have hb := grow_stepX hb u rfl
  refine c _ _ (zF fun _ c => zH ?_)
  refine zG (zC p rfl g) (op_add (zA p rfl) rfl (add64 zx) (zD (zA p rfl) (zB (c _ _ (zH (zG (zC p rfl j) (op_sub (zA p rfl) rfl (sub64 zx) (zD (zA p rfl) (zB (blk_normal ?_))))))))))
  -- round 13T
  exact zg _ p s ⟨(ix + 1), (jx - 1), _, rfl, (zL p rfl z), (zU p rfl).trans (congrArg (Value.int .i64) zx), (zU p rfl).trans (congrArg (Value.int .i64) zx), (by first | assumption | (simp only [Array.size_setIfInBounds, swp_sz, siftDown_size]; assumption)), zx, (hs.trans (rev_go zx)), hb, zx, t⟩ zx
 refine zB (o _ _ (wp_cond_false (zA f rfl) (wp_exit (then_exit (then_exit (blk_hit (end_ret (ret0 rfl m  ⟨_, rfl, ?_⟩))))))))
 exact ⟨hb, rfl, l.cast rfl (by rw [show reverseRange d a b = reverseLoop a (b - 1) d from rfl, hs, rev_stop zx])⟩
open Go.Sort (insertionSort insOuter insInner swp siftDown heapSort heapBuild heapPop scanUp scanDown partition partLoop partitionEqual partEqLoop scanSorted partialIns bitsLen partialInsertionSort shiftDown shiftUp SortedIn reverseRange reverseLoop fixDown fixUp)
theorem len64W_ret (n : Nat) (w : World) (hn : n < 18446744073709551616) : Ret Try.prog 77 #[(.int .u64 ((n : Nat) : Int))] w (fun v' w' => Below w.heap.size w w' ∧ v' = .int .i64 (bitsLen n : Int)) := by
 have hb := Below.refl w.heap.size w
 refine enter (N := 25) Try.func77 rfl rfl (by simp) fun a hN hd hA => ?_
 have c : a.tmps.getD 0 undef = (.int .u64 ((n : Nat) : Int)) := hA 0 (by simp)
 clear hA
 refine zF fun _ a => zH (zD rfl (zB (a _ _ (seq_join1 (N := 25) (fun az_ w' => ∃ (d e : Nat), (Sl az_ 0 (.int .u64 ((d : Nat) : Int))) ∧ (Sl az_ 2 (.int .i64 ((e : Nat) : Int))) ∧ (bitsLen n = e + bitsLen d ∧ d < 4294967296 ∧ e ≤ 32) ∧ (Below w.heap.size w w') ∧ (w.heap.size ≤ w'.heap.size)) (fun f => ?_) ?_))))
 ·
  refine zF fun _ a => zF fun _ g => zH (zG (zC hN rfl c) (op_geq (zA hN rfl) rfl (fun h => ?_) (fun h => ?_)))
  ·
   refine zB ?_
   refine g _ _ (wp_cond_true (zA hN rfl) (zF fun _ g => zH (zG (zC hN rfl c) (op_shr (r := ((n / 4294967296 : Nat) : Int)) (zA hN rfl) rfl zz (shr_nat (j := 32) zx zz) (zD (zA hN rfl) (zB (g _ _ (zH (zD rfl (zB (a _ _ ?_)))))))))))
   exact f _ _ _ hN hd ⟨(n / 4294967296), (0 + 32), (zU hN rfl).trans (congrArg (Value.int .u64) zx), (zU hN rfl).trans (congrArg (Value.int .i64) zx), (by have hz := bits_32 (n := n) zx; omega), hb, zx⟩
  refine zB (g _ _ (wp_cond_false (zA hN rfl) (wp_skip (a _ _ ?_))))
  exact f _ _ _ hN hd ⟨n, 0, (zL hN rfl c).trans (congrArg (Value.int .u64) zx), (zU hN rfl).trans (congrArg (Value.int .i64) zx), zx, hb, zx⟩
 rintro m l c k ⟨d, e, f, h, o, hb, p⟩
 have := hb.size
 refine seq_join1 (N := 25) (fun az_ w' => ∃ (m o : Nat), (Sl az_ 0 (.int .u64 ((m : Nat) : Int))) ∧ (Sl az_ 2 (.int .i64 ((o : Nat) : Int))) ∧ (bitsLen n = o + bitsLen m ∧ m < 65536 ∧ o ≤ 48) ∧ (Below w.heap.size w w') ∧ (l.heap.size ≤ w'.heap.size)) (fun p => ?_) ?_
 ·
  refine zF fun _ a => zF fun _ g => zH (zG (zC c rfl f) (op_geq (zA c rfl) rfl (fun l => ?_) (fun l => ?_)))
  ·
   refine zB (g _ _ (wp_cond_true (zA c rfl) (zF fun _ g => zH ?_)))
   refine zG (zC c rfl f) (op_shr (r := ((d / 65536 : Nat) : Int)) (zA c rfl) rfl zz (shr_nat (j := 16) zx zz) (zD (zA c rfl) (zB (g _ _ (zH (zG (zC c rfl h) (op_add (zA c rfl) rfl (add64 zx) (zD (zA c rfl) (zB (a _ _ ?_))))))))))
   exact p _ _ _ c k ⟨(d / 65536), (e + 16), (zU c rfl).trans (congrArg (Value.int .u64) zx), (zU c rfl).trans (congrArg (Value.int .i64) zx), (by have hz := bits_16 (n := d) zx; omega), hb, zx⟩
  refine zB (g _ _ (wp_cond_false (zA c rfl) (wp_skip (a _ _ ?_))))
  exact p _ _ _ c k ⟨d, e, (zL c rfl f).trans (congrArg (Value.int .u64) zx), (zL c rfl h).trans (congrArg (Value.int .i64) zx), zx, hb, zx⟩
 rintro k h c f ⟨m, o, d, e, l, hb, p⟩
 have := hb.size
 refine seq_join1 (N := 25) (fun az_ w' => ∃ (k l : Nat), (Sl az_ 0 (.int .u64 ((k : Nat) : Int))) ∧ (Sl az_ 2 (.int .i64 ((l : Nat) : Int))) ∧ (bitsLen n = l + bitsLen k ∧ k < 256 ∧ l ≤ 56) ∧ (Below w.heap.size w w') ∧ (h.heap.size ≤ w'.heap.size)) (fun p => ?_) ?_
 ·
  refine zF fun _ a => zF fun _ g => zH (zG (zC c rfl d) (op_geq (zA c rfl) rfl (fun h => ?_) (fun h => ?_)))
  ·
   refine zB (g _ _ (wp_cond_true (zA c rfl) (zF fun _ g => zH ?_)))
   refine zG (zC c rfl d) (op_shr (r := ((m / 256 : Nat) : Int)) (zA c rfl) rfl zz (shr_nat (j := 8) zx zz) (zD (zA c rfl) (zB (g _ _ (zH (zG (zC c rfl e) (op_add (zA c rfl) rfl (add64 zx) (zD (zA c rfl) (zB (a _ _ ?_))))))))))
   exact p _ _ _ c f ⟨(m / 256), (o + 8), (zU c rfl).trans (congrArg (Value.int .u64) zx), (zU c rfl).trans (congrArg (Value.int .i64) zx), (by have hz := bits_8 (n := m) zx; omega), hb, zx⟩
  refine zB (g _ _ (wp_cond_false (zA c rfl) (wp_skip (a _ _ ?_))))
  exact p _ _ _ c f ⟨m, o, (zL c rfl d).trans (congrArg (Value.int .u64) zx), (zL c rfl e).trans (congrArg (Value.int .i64) zx), zx, hb, zx⟩
 rintro h g c d ⟨k, l, e, f, o, hb, m⟩
 have := hb.size
 refine zF fun _ a => zH (zG (zC c rfl f) (zG (zC c rfl e) (op_conv (r := ((k : Nat) : Int)) (zA c rfl) us57 Try.underlying5 (wrap_u8 zx) ?_)))
 have e := tab8_sz
 have e := tab8_len (z := k) zx
 have e : k < tab8.length := by omega
 have f : bitsLen k ≤ 8 := (Go.Sort.bitsLen_le_iff k 8).2 zx
 refine op_index_str (b := (tab8.getD k 0)) Try.underlying9 rfl (zA c rfl) (Int.natCast_nonneg _) (el_str (i := k) rfl e) (op_conv (r := ((tab8.getD k 0).toNat : Int)) (zA c rfl) us5 Try.underlying3 (wrap_i64 (by have := ((tab8.getD k 0)).toNat_lt; omega)) (op_add (zA c rfl) (zA c rfl) (add64 zx) (zD (zA c rfl) (zB (a _ _ (wp_ret (ret1 rfl d (zA c rfl) ⟨_, rfl, ?_⟩)))))))
 exact ⟨hb, congrArg (Value.int .i64) zx⟩

theorem lenW_ret (n : Nat) (w : World) (hn : n < 18446744073709551616) : Ret Try.prog 64 #[(.int .u64 ((n : Nat) : Int))] w (fun v' w' => Below w.heap.size w w' ∧ v' = .int .i64 (bitsLen n : Int)) := by
 have hb := Below.refl w.heap.size w
 refine enter (N := 8) Try.func64 rfl rfl (by simp) fun a hN hd hA => ?_
 have b : a.tmps.getD 0 undef = (.int .u64 ((n : Nat) : Int)) := hA 0 (by simp)
 clear hA
 refine zF fun _ a => zH (zD rfl ?_)
 refine zB (a _ _ (zF fun _ a => wp_cond_false rfl (wp_skip (a _ _ (zF fun _ a => zH (zG (zC hN rfl b) (zj ok77 (len64W_ret n _ zx) ⟨(zA hN rfl), trivial⟩ ?_)))))))
 rintro _ c ⟨b, rfl⟩
 have b := zQ b
 obtain ⟨hb, _⟩ := yE hb b
 refine zD (zA hN rfl) (zB (a _ _ (wp_ret (ret1 rfl hd (zA hN rfl) ⟨_, rfl, ?_⟩))))
 exact ⟨hb, rfl⟩

theorem npW_ret (n : Nat) (w : World) (hn : 0 < n ∧ n ≤ 4000000000000000000) : Ret Try.prog 88 #[(.int .i64 ((n : Nat) : Int))] w (fun v' w' => Below w.heap.size w w' ∧ ∃ m : Nat, v' = .int .u64 (m : Int) ∧ 1 ≤ m ∧ m ≤ 2 * n) := by
 have hb := Below.refl w.heap.size w
 refine enter (N := 7) Try.func88 rfl rfl (by simp) fun a hN hd hA => ?_
 have b : a.tmps.getD 0 undef = (.int .i64 ((n : Nat) : Int)) := hA 0 (by simp)
 clear hA
 refine zF fun _ a => zH (zD rfl ?_)
 refine zB (a _ _ (zF fun _ a => zH (zG (zC hN rfl b) (op_conv (r := ((n : Nat) : Int)) (zA hN rfl) us3 Try.underlying90 (wrap_u64 zx) (zj ok64 (lenW_ret n _ zx) ⟨(zA hN rfl), trivial⟩ ?_)))))
 rintro _ c ⟨b, rfl⟩
 have b := zQ b
 obtain ⟨hb, _⟩ := yE hb b
 have hbl : bitsLen n ≤ 62 := (Go.Sort.bitsLen_le_iff n 62).2 zx
 have b := Go.Sort.two_pow_bitsLen_le (n := n) hn.1
 have b := Nat.two_pow_pos (bitsLen n)
 refine op_shl (r := ((2 ^ bitsLen n : Nat) : Int)) rfl (zA hN rfl) zx (shl_one zx) (zD (zA hN rfl) (zB (a _ _ (wp_ret (ret1 rfl hd (zA hN rfl) ⟨_, rfl, ?_⟩)))))
 exact ⟨hb, _, rfl, by omega, by omega⟩

theorem xnextW_ret (s : Nat) (m : Int) (w : World) (hs : Bx w s 121 [.int .u64 m]) : Ret Try.prog 89 #[(ptr s 0)] w (fun v' w' => w.grownBy w' (some s) ∧ ∃ r : Nat, v' = .int .u64 (r : Int) ∧ r < 18446744073709551616 ∧ Bx w' s 121 [.int .u64 (r : Int)]) := by
 have hs_lt := hs.lt
 have hb := grown_refl w (some s)
 refine enter (N := 33) Try.func89 rfl rfl (by simp) fun a hN hd hA => ?_
 have b : a.tmps.getD 0 undef = (ptr s 0) := hA 0 (by simp)
 clear hA
 refine zF fun _ a => zH (zD rfl (zB (a _ _ (zF fun _ a => reg_from mixed ?_))))
 intro d c
 have := c.size
 have hs := hs.keep0 c
 have hb := grow_step0 hb c
 refine from_still (m := 9) 9 (hd := [_, _, _, _, _, _, _, _, _]) zy rfl rfl (st_step rfl (fun _ c => zG (zC hN rfl b) c) (st_step rfl (fun _ c => op_nil (zA hN rfl) c) ?_))
 refine st_step rfl (fun _ c => zN one121 (zA hN rfl) (hs.cell rfl) c) (st_step rfl (fun _ c => zG (zC hN rfl b) c) (st_step rfl (fun _ c => op_nil (zA hN rfl) c) (st_step rfl (fun _ c => zN one121 (zA hN rfl) (hs.cell rfl) c) (st_step rfl (fun _ c => op_shl (r := (IntKind.u64.wrap (m * 2 ^ (min (13 : Int).toNat (IntKind.bits .u64))))) (zA hN rfl) rfl zz rfl c) (st_step rfl (fun _ c => op_xor (r := (bits .xor .u64 (m) ((IntKind.u64.wrap (m * 2 ^ (min (13 : Int).toNat (IntKind.bits .u64))))))) (zA hN rfl) (zA hN rfl) rfl c) (st_step rfl (fun _ c => op_nil (zA hN rfl) c) (st_nil (from_seq (tl := [_]) zz zy rfl (za (vs := [(.int .u64 (bits .xor .u64 (m) ((IntKind.u64.wrap (m * 2 ^ (min (13 : Int).toNat (IntKind.bits .u64)))))))]) (cs' := [(.int .u64 (bits .xor .u64 (m) ((IntKind.u64.wrap (m * 2 ^ (min (13 : Int).toNat (IntKind.bits .u64)))))))]) size121 (zA hN rfl) (zA hN rfl) rfl rfl rfl hs (zI rfl) rfl ?_)))))))))
 intro e hs d
 have := d.size
 have hb := grown_trans hb d
 refine zB (a _ _ (zF fun _ a => reg_from mixed ?_))
 intro e d
 have := d.size
 have hs := hs.keep0 d
 have hb := grow_step0 hb d
 refine from_still (m := 9) 9 (hd := [_, _, _, _, _, _, _, _, _]) zy rfl rfl (st_step rfl (fun _ c => zG (zC hN rfl b) c) (st_step rfl (fun _ c => op_nil (zA hN rfl) c) ?_))
 refine st_step rfl (fun _ c => zN one121 (zA hN rfl) (hs.cell rfl) c) (st_step rfl (fun _ c => zG (zC hN rfl b) c) (st_step rfl (fun _ c => op_nil (zA hN rfl) c) (st_step rfl (fun _ c => zN one121 (zA hN rfl) (hs.cell rfl) c) (st_step rfl (fun _ c => op_shr (r := (((bits .xor .u64 (m) ((IntKind.u64.wrap (m * 2 ^ (min (13 : Int).toNat (IntKind.bits .u64))))))).fdiv (2 ^ (min (7 : Int).toNat (IntKind.bits .u64))))) (zA hN rfl) rfl zz rfl c) (st_step rfl (fun _ c => op_xor (r := (bits .xor .u64 ((bits .xor .u64 (m) ((IntKind.u64.wrap (m * 2 ^ (min (13 : Int).toNat (IntKind.bits .u64))))))) ((((bits .xor .u64 (m) ((IntKind.u64.wrap (m * 2 ^ (min (13 : Int).toNat (IntKind.bits .u64))))))).fdiv (2 ^ (min (7 : Int).toNat (IntKind.bits .u64))))))) (zA hN rfl) (zA hN rfl) rfl c) (st_step rfl (fun _ c => op_nil (zA hN rfl) c) (st_nil (from_seq (tl := [_]) zz zy rfl (za (vs := [(.int .u64 (bits .xor .u64 ((bits .xor .u64 (m) ((IntKind.u64.wrap (m * 2 ^ (min (13 : Int).toNat (IntKind.bits .u64))))))) ((((bits .xor .u64 (m) ((IntKind.u64.wrap (m * 2 ^ (min (13 : Int).toNat (IntKind.bits .u64))))))).fdiv (2 ^ (min (7 : Int).toNat (IntKind.bits .u64)))))))]) (cs' := [(.int .u64 (bits .xor .u64 ((bits .xor .u64 (m) ((IntKind.u64.wrap (m * 2 ^ (min (13 : Int).toNat (IntKind.bits .u64))))))) ((((bits .xor .u64 (m) ((IntKind.u64.wrap (m * 2 ^ (min (13 : Int).toNat (IntKind.bits .u64))))))).fdiv (2 ^ (min (7 : Int).toNat (IntKind.bits .u64)))))))]) size121 (zA hN rfl) (zA hN rfl) rfl rfl rfl hs (zI rfl) rfl ?_)))))))))
 intro e hs d
 have := d.size
 have hb := grown_trans hb d
 refine zB (a _ _ (zF fun _ a => reg_from mixed ?_))
 intro e d
 have := d.size
 have hs := hs.keep0 d
 have hb := grow_step0 hb d
 refine from_still (m := 9) 9 (hd := [_, _, _, _, _, _, _, _, _]) zy rfl rfl (st_step rfl (fun _ c => zG (zC hN rfl b) c) (st_step rfl (fun _ c => op_nil (zA hN rfl) c) (st_step rfl (fun _ c => zN one121 (zA hN rfl) (hs.cell rfl) c) (st_step rfl (fun _ c => zG (zC hN rfl b) c) (st_step rfl (fun _ c => op_nil (zA hN rfl) c) (st_step rfl (fun _ c => zN one121 (zA hN rfl) (hs.cell rfl) c) (st_step rfl (fun _ c => op_shl (r := (IntKind.u64.wrap ((bits .xor .u64 ((bits .xor .u64 (m) ((IntKind.u64.wrap (m * 2 ^ (min (13 : Int).toNat (IntKind.bits .u64))))))) ((((bits .xor .u64 (m) ((IntKind.u64.wrap (m * 2 ^ (min (13 : Int).toNat (IntKind.bits .u64))))))).fdiv (2 ^ (min (7 : Int).toNat (IntKind.bits .u64)))))) * 2 ^ (min (17 : Int).toNat (IntKind.bits .u64))))) (zA hN rfl) rfl zz rfl c) ?_)))))))
 refine st_step rfl (fun _ c => op_xor (r := (bits .xor .u64 ((bits .xor .u64 ((bits .xor .u64 (m) ((IntKind.u64.wrap (m * 2 ^ (min (13 : Int).toNat (IntKind.bits .u64))))))) ((((bits .xor .u64 (m) ((IntKind.u64.wrap (m * 2 ^ (min (13 : Int).toNat (IntKind.bits .u64))))))).fdiv (2 ^ (min (7 : Int).toNat (IntKind.bits .u64))))))) ((IntKind.u64.wrap ((bits .xor .u64 ((bits .xor .u64 (m) ((IntKind.u64.wrap (m * 2 ^ (min (13 : Int).toNat (IntKind.bits .u64))))))) ((((bits .xor .u64 (m) ((IntKind.u64.wrap (m * 2 ^ (min (13 : Int).toNat (IntKind.bits .u64))))))).fdiv (2 ^ (min (7 : Int).toNat (IntKind.bits .u64)))))) * 2 ^ (min (17 : Int).toNat (IntKind.bits .u64))))))) (zA hN rfl) (zA hN rfl) rfl c) (st_step rfl (fun _ c => op_nil (zA hN rfl) c) (st_nil (from_seq (tl := [_]) zz zy rfl (za (vs := [(.int .u64 (bits .xor .u64 ((bits .xor .u64 ((bits .xor .u64 (m) ((IntKind.u64.wrap (m * 2 ^ (min (13 : Int).toNat (IntKind.bits .u64))))))) ((((bits .xor .u64 (m) ((IntKind.u64.wrap (m * 2 ^ (min (13 : Int).toNat (IntKind.bits .u64))))))).fdiv (2 ^ (min (7 : Int).toNat (IntKind.bits .u64))))))) ((IntKind.u64.wrap ((bits .xor .u64 ((bits .xor .u64 (m) ((IntKind.u64.wrap (m * 2 ^ (min (13 : Int).toNat (IntKind.bits .u64))))))) ((((bits .xor .u64 (m) ((IntKind.u64.wrap (m * 2 ^ (min (13 : Int).toNat (IntKind.bits .u64))))))).fdiv (2 ^ (min (7 : Int).toNat (IntKind.bits .u64)))))) * 2 ^ (min (17 : Int).toNat (IntKind.bits .u64)))))))]) (cs' := [(.int .u64 (bits .xor .u64 ((bits .xor .u64 ((bits .xor .u64 (m) ((IntKind.u64.wrap (m * 2 ^ (min (13 : Int).toNat (IntKind.bits .u64))))))) ((((bits .xor .u64 (m) ((IntKind.u64.wrap (m * 2 ^ (min (13 : Int).toNat (IntKind.bits .u64))))))).fdiv (2 ^ (min (7 : Int).toNat (IntKind.bits .u64))))))) ((IntKind.u64.wrap ((bits .xor .u64 ((bits .xor .u64 (m) ((IntKind.u64.wrap (m * 2 ^ (min (13 : Int).toNat (IntKind.bits .u64))))))) ((((bits .xor .u64 (m) ((IntKind.u64.wrap (m * 2 ^ (min (13 : Int).toNat (IntKind.bits .u64))))))).fdiv (2 ^ (min (7 : Int).toNat (IntKind.bits .u64)))))) * 2 ^ (min (17 : Int).toNat (IntKind.bits .u64)))))))]) size121 (zA hN rfl) (zA hN rfl) rfl rfl rfl hs (zI rfl) rfl ?_))))
 intro d hs c
 have := c.size
 have hb := grown_trans hb c
 refine zB (a _ _ (zF fun _ a => zH (zG (zC hN rfl b) (op_nil (zA hN rfl) (zN one121 (zA hN rfl) (hs.cell rfl) (zD (zA hN rfl) (zB (a _ _ (wp_ret (ret1 rfl hd (zA hN rfl) ⟨_, rfl, ?_⟩))))))))))
 have hrr := xor_rng (((bits .xor .u64 ((bits .xor .u64 (m) ((IntKind.u64.wrap (m * 2 ^ (min (13 : Int).toNat (IntKind.bits .u64))))))) ((((bits .xor .u64 (m) ((IntKind.u64.wrap (m * 2 ^ (min (13 : Int).toNat (IntKind.bits .u64))))))).fdiv (2 ^ (min (7 : Int).toNat (IntKind.bits .u64)))))))) (((IntKind.u64.wrap ((bits .xor .u64 ((bits .xor .u64 (m) ((IntKind.u64.wrap (m * 2 ^ (min (13 : Int).toNat (IntKind.bits .u64))))))) ((((bits .xor .u64 (m) ((IntKind.u64.wrap (m * 2 ^ (min (13 : Int).toNat (IntKind.bits .u64))))))).fdiv (2 ^ (min (7 : Int).toNat (IntKind.bits .u64)))))) * 2 ^ (min (17 : Int).toNat (IntKind.bits .u64))))))
 obtain ⟨rr, a⟩ : ∃ r : Nat, (bits .xor .u64 ((bits .xor .u64 ((bits .xor .u64 (m) ((IntKind.u64.wrap (m * 2 ^ (min (13 : Int).toNat (IntKind.bits .u64))))))) ((((bits .xor .u64 (m) ((IntKind.u64.wrap (m * 2 ^ (min (13 : Int).toNat (IntKind.bits .u64))))))).fdiv (2 ^ (min (7 : Int).toNat (IntKind.bits .u64))))))) ((IntKind.u64.wrap ((bits .xor .u64 ((bits .xor .u64 (m) ((IntKind.u64.wrap (m * 2 ^ (min (13 : Int).toNat (IntKind.bits .u64))))))) ((((bits .xor .u64 (m) ((IntKind.u64.wrap (m * 2 ^ (min (13 : Int).toNat (IntKind.bits .u64))))))).fdiv (2 ^ (min (7 : Int).toNat (IntKind.bits .u64)))))) * 2 ^ (min (17 : Int).toNat (IntKind.bits .u64)))))) = (r : Int) := ⟨((bits .xor .u64 ((bits .xor .u64 ((bits .xor .u64 (m) ((IntKind.u64.wrap (m * 2 ^ (min (13 : Int).toNat (IntKind.bits .u64))))))) ((((bits .xor .u64 (m) ((IntKind.u64.wrap (m * 2 ^ (min (13 : Int).toNat (IntKind.bits .u64))))))).fdiv (2 ^ (min (7 : Int).toNat (IntKind.bits .u64))))))) ((IntKind.u64.wrap ((bits .xor .u64 ((bits .xor .u64 (m) ((IntKind.u64.wrap (m * 2 ^ (min (13 : Int).toNat (IntKind.bits .u64))))))) ((((bits .xor .u64 (m) ((IntKind.u64.wrap (m * 2 ^ (min (13 : Int).toNat (IntKind.bits .u64))))))).fdiv (2 ^ (min (7 : Int).toNat (IntKind.bits .u64)))))) * 2 ^ (min (17 : Int).toNat (IntKind.bits .u64))))))).toNat, by omega⟩
 rw [a] at hrr
 exact ⟨hb, rr, congrArg (Value.int .u64) a, by omega, by have hz := hs; rw [a] at hz; exact hz⟩
open Go.Sort (insertionSort insOuter insInner swp siftDown heapSort heapBuild heapPop scanUp scanDown partition partLoop partitionEqual partEqLoop scanSorted partialIns bitsLen partialInsertionSort shiftDown shiftUp SortedIn reverseRange reverseLoop fixDown fixUp)
theorem order2W_ret (d : Ar) (v : Value) (n B s m : Nat) (a b : Nat) (w : World) (hd : d.size = n) (hn : n ≤ 4000000000000000000) (hv : RdC w 0 B 1 v n (d.toList.map u64v)) (hBs : B ≤ s) (hs : Bx w s 3 [.int .i64 (m : Int)]) (hm : m ≤ 100000) (ha : a < n) (hb2 : b < n) : Ret Try.prog 97 #[v, (.int .i64 ((a : Nat) : Int)), (.int .i64 ((b : Nat) : Int)), (ptr s 0)] w (fun v' w' => w.grownBy w' (some s) ∧ ∃ x y m' : Nat, v' = .tuple #[.int .i64 (x : Int), .int .i64 (y : Int)] ∧ ((x = a ∧ y = b) ∨ (x = b ∧ y = a)) ∧ m' ≤ m + 1 ∧ Bx w' s 3 [.int .i64 (m' : Int)]) := by
 have hs_lt := hs.lt
 have hb := grown_refl w (some s)
 refine enter (N := 28) Try.func97 rfl rfl (by simp) fun c hN hd hA => ?_
 have e : c.tmps.getD 0 undef = v := hA 0 (by simp)
 have f : c.tmps.getD 1 undef = (.int .i64 ((a : Nat) : Int)) := hA 1 (by simp)
 have g : c.tmps.getD 2 undef = (.int .i64 ((b : Nat) : Int)) := hA 2 (by simp)
 have h : c.tmps.getD 3 undef = (ptr s 0) := hA 3 (by simp)
 clear hA
 refine zF fun _ j => zH (zD rfl (zD rfl (zB (j _ _ (zF fun _ j => zF fun _ c => reg_still mixed zy ?_)))))
 intro l k
 have := k.size
 have hv := hv.keep0 k
 have hs := hs.keep0 k
 have hb := grow_step0 hb k
 refine st_step rfl (fun _ k => zG (zC hN rfl e) k) (st_step rfl (fun _ k => zG (zC hN rfl g) k) (st_index_rd slt62 (zA hN rfl) hv (zA hN rfl) zx zx ?_))
 intro q p t o l
 refine st_step rfl (fun _ k => zN (v := (Value.int .u64 (d[b]!.toNat : Int))) one57 (zA hN rfl) (by have := l 0 (.int .u64 (d[b]!.toNat : Int)) zz (el_arr (i := b) zx (by first | omega | (simp only [Array.size_setIfInBounds, swp_sz, siftDown_size]; omega))); simpa using this) k) (st_step rfl (fun _ k => zG (zC hN rfl e) k) (st_step rfl (fun _ k => zG (zC hN rfl f) k) (st_index_rd slt62 (zA hN rfl) hv (zA hN rfl) zx zx ?_)))
 intro o p l q e
 refine st_step rfl (fun _ k => zN (v := (Value.int .u64 (d[a]!.toNat : Int))) one57 (zA hN rfl) (by have := e 0 (.int .u64 (d[a]!.toNat : Int)) zz (el_arr (i := a) zx (by first | omega | (simp only [Array.size_setIfInBounds, swp_sz, siftDown_size]; omega))); simpa using this) k) (st_fn (vs := [(.int .u64 (d[b]!.toNat : Int)), (.int .u64 (d[a]!.toNat : Int))]) ok73 (⟨(zA hN rfl), ⟨(zA hN rfl), trivial⟩⟩) (Less16_ret d[b]! d[a]! _) (st_nil (c _ _ (wp_cond_split (zA hN rfl) (fun l => ?_) (fun l => ?_)))))
 ·
  refine zF fun _ c => zH (zG (zC hN rfl h) (op_nil (zA hN rfl) (zN one3 (zA hN rfl) (hs.cell rfl) (op_add (r := ((m + 1 : Nat) : Int)) (zA hN rfl) rfl (by rw [IntKind.wrap_i64]; omega) (op_nil (zA hN rfl) (za (vs := [(.int .i64 ((m + 1 : Nat) : Int))]) (cs' := [(.int .i64 ((m + 1 : Nat) : Int))]) size3 (zA hN rfl) (zA hN rfl) rfl rfl rfl hs (zI rfl) rfl ?_))))))
  intro h hs e
  have := e.size
  have hb := grown_trans hb e
  refine zB (c _ _ (zF fun _ c => zH (zG (zC hN rfl g) (zG (zC hN rfl f) (zD (zA hN rfl) (zD (zA hN rfl) (zB (c _ _ (wp_ret (zO ( (ret2 rfl hd (zA hN rfl) (zA hN rfl) ⟨_, rfl, ?_⟩))))))))))))
  exact ⟨hb, _, _, _, rfl, .inr ⟨rfl, rfl⟩, by omega, hs⟩
 refine wp_skip (j _ _ (zF fun _ j => zH (zG (zC hN rfl f) (zG (zC hN rfl g) (zD (zA hN rfl) (zD (zA hN rfl) (zB (j _ _ (wp_ret (ret2 rfl hd (zA hN rfl) (zA hN rfl) ⟨_, rfl, ?_⟩))))))))))
 exact ⟨hb, _, _, _, rfl, .inl ⟨rfl, rfl⟩, by omega, hs⟩

theorem medianW_ret (d : Ar) (v : Value) (n B s m : Nat) (a b c : Nat) (w : World) (hd : d.size = n) (hn : n ≤ 4000000000000000000) (hv : RdC w 0 B 1 v n (d.toList.map u64v)) (hBs : B ≤ s) (hs : Bx w s 3 [.int .i64 (m : Int)]) (hm : m ≤ 90000) (ha : a < n) (hb2 : b < n) (hc2 : c < n) : Ret Try.prog 91 #[v, (.int .i64 ((a : Nat) : Int)), (.int .i64 ((b : Nat) : Int)), (.int .i64 ((c : Nat) : Int)), (ptr s 0)] w (fun v' w' => w.grownBy w' (some s) ∧ ∃ x m' : Nat, v' = .int .i64 (x : Int) ∧ (x = a ∨ x = b ∨ x = c) ∧ m' ≤ m + 3 ∧ Bx w' s 3 [.int .i64 (m' : Int)]) := by
 have hs_lt := hs.lt
 have hb := grown_refl w (some s)
 refine enter (N := 36) Try.func91 rfl rfl (by simp) fun e hN hd hA => ?_
 have f : e.tmps.getD 0 undef = v := hA 0 (by simp)
 have g : e.tmps.getD 1 undef = (.int .i64 ((a : Nat) : Int)) := hA 1 (by simp)
 have h : e.tmps.getD 2 undef = (.int .i64 ((b : Nat) : Int)) := hA 2 (by simp)
 have j : e.tmps.getD 3 undef = (.int .i64 ((c : Nat) : Int)) := hA 3 (by simp)
 have k : e.tmps.getD 4 undef = (ptr s 0) := hA 4 (by simp)
 clear hA
 refine zF fun _ e => zH (zD rfl (zB (e _ _ (zF fun _ e => ?_))))
 refine zH (zG (zC hN rfl f) (zG (zC hN rfl g) (zG (zC hN rfl h) (zG (zC hN rfl k) (zj ok97 (order2W_ret d v _ B s m a b _ (by first | assumption | (simp only [Array.size_setIfInBounds, swp_sz, siftDown_size]; assumption)) zx hv zx hs zx zx zx) ⟨(zA hN rfl), ⟨(zA hN rfl), ⟨(zA hN rfl), ⟨(zA hN rfl), trivial⟩⟩⟩⟩ ?_)))))
 rintro _ r ⟨g, o, l, p, rfl, q, t, h⟩
 have := g.size
 have hv := hv.keep g sR
 have hb := grown_trans hb g
 refine zG (zA hN rfl) (zW (zA hN rfl) rfl (zW (zA hN rfl) rfl (zD (zA hN rfl) (zD (zA hN rfl) (zB (e _ _ (zF fun _ e => ?_)))))))
 refine zH (zG (zC hN rfl f) (zG (zA hN rfl) (zG (zC hN rfl j) (zG (zC hN rfl k) (zj ok97 (order2W_ret d v _ B s p l c _ (by first | assumption | (simp only [Array.size_setIfInBounds, swp_sz, siftDown_size]; assumption)) zx hv zx h zx zx zx) ⟨(zA hN rfl), ⟨(zA hN rfl), ⟨(zA hN rfl), ⟨(zA hN rfl), trivial⟩⟩⟩⟩ ?_)))))
 rintro _ p ⟨g, j, t, h, rfl, q, r, l⟩
 have := g.size
 have hv := hv.keep g sR
 have hb := grown_trans hb g
 refine zG (zA hN rfl) (zW (zA hN rfl) rfl (zW (zA hN rfl) rfl (zD (zA hN rfl) (zD (zA hN rfl) (zB (e _ _ (zF fun _ e => ?_)))))))
 refine zH (zG (zC hN rfl f) (zG (zA hN rfl) (zG (zA hN rfl) (zG (zC hN rfl k) (zj ok97 (order2W_ret d v _ B s h o j _ (by first | assumption | (simp only [Array.size_setIfInBounds, swp_sz, siftDown_size]; assumption)) zx hv zx l zx zx zx) ⟨(zA hN rfl), ⟨(zA hN rfl), ⟨(zA hN rfl), ⟨(zA hN rfl), trivial⟩⟩⟩⟩ ?_)))))
 rintro _ j ⟨f, k, o, p, rfl, l, h, g⟩
 have := f.size
 have hb := grown_trans hb f
 refine zG (zA hN rfl) (zW (zA hN rfl) rfl (zW (zA hN rfl) rfl ?_))
 refine zD (zA hN rfl) (zD (zA hN rfl) (zB (e _ _ (zF fun _ e => zH (zG (zA hN rfl) (zD (zA hN rfl) (zB (e _ _ (wp_ret (ret1 rfl hd (zA hN rfl) ⟨_, rfl, ?_⟩))))))))))
 exact ⟨hb, _, _, rfl, by omega, by omega, g⟩

theorem medAdjW_ret (d : Ar) (v : Value) (n B s m : Nat) (a : Nat) (w : World) (hd : d.size = n) (hn : n ≤ 4000000000000000000) (hv : RdC w 0 B 1 v n (d.toList.map u64v)) (hBs : B ≤ s) (hs : Bx w s 3 [.int .i64 (m : Int)]) (hm : m ≤ 80000) (h1 : 1 ≤ a) (ha : a + 1 < n) : Ret Try.prog 90 #[v, (.int .i64 ((a : Nat) : Int)), (ptr s 0)] w (fun v' w' => w.grownBy w' (some s) ∧ ∃ x m' : Nat, v' = .int .i64 (x : Int) ∧ (x = a - 1 ∨ x = a ∨ x = a + 1) ∧ m' ≤ m + 3 ∧ Bx w' s 3 [.int .i64 (m' : Int)]) := by
 have hs_lt := hs.lt
 have hb := grown_refl w (some s)
 refine enter (N := 15) Try.func90 rfl rfl (by simp) fun b hN hd hA => ?_
 have c : b.tmps.getD 0 undef = v := hA 0 (by simp)
 have e : b.tmps.getD 1 undef = (.int .i64 ((a : Nat) : Int)) := hA 1 (by simp)
 have f : b.tmps.getD 2 undef = (ptr s 0) := hA 2 (by simp)
 clear hA
 refine zF fun _ b => zH (zD rfl (zB (b _ _ (zF fun _ b => zH (zG (zC hN rfl c) (zG (zC hN rfl e) ?_))))))
 refine op_sub (r := ((a - 1 : Nat) : Int)) (zA hN rfl) rfl (by rw [IntKind.wrap_i64]; omega) (zG (zC hN rfl e) (zG (zC hN rfl e) (op_add (zA hN rfl) rfl (add64 zx) (zG (zC hN rfl f) (zj ok91 (medianW_ret d v _ B s m (a - 1) a (a + 1) _ (by first | assumption | (simp only [Array.size_setIfInBounds, swp_sz, siftDown_size]; assumption)) zx hv zx hs zx zx zx zx) ⟨(zA hN rfl), ⟨(zA hN rfl), ⟨(zA hN rfl), ⟨(zA hN rfl), ⟨(zA hN rfl), trivial⟩⟩⟩⟩⟩ ?_)))))
 rintro _ g ⟨c, k, f, rfl, h, j, e⟩
 have := c.size
 have hb := grown_trans hb c
 refine zD (zA hN rfl) (zB (b _ _ (wp_ret (ret1 rfl hd (zA hN rfl) ⟨_, rfl, ?_⟩))))
 exact ⟨hb, _, _, rfl, by omega, by omega, e⟩

set_option maxHeartbeats 2000000 in
theorem choosePW_ret (d : Ar) (v : Value) (n a b : Nat) (w : World) (hd : d.size = n) (hn : n ≤ 4000000000000000000) (hv : RdC w 0 w.heap.size 1 v n (d.toList.map u64v)) (hab : a < b) (hbn : b ≤ n) : Ret Try.prog 70 #[v, (.int .i64 ((a : Nat) : Int)), (.int .i64 ((b : Nat) : Int))] w (fun v' w' => Below w.heap.size w w' ∧ ∃ (x : Nat) (h : Int), v' = .tuple #[.int .i64 (x : Int), .int .i64 h] ∧ a ≤ x ∧ x < b) := by
 have hb := Below.refl w.heap.size w
 refine enter (N := 57) Try.func70 rfl rfl (by simp) fun c hN hd hA => ?_
 have e : c.tmps.getD 0 undef = v := hA 0 (by simp)
 have f : c.tmps.getD 1 undef = (.int .i64 ((a : Nat) : Int)) := hA 1 (by simp)
 have g : c.tmps.getD 2 undef = (.int .i64 ((b : Nat) : Int)) := hA 2 (by simp)
 clear hA
 refine zF fun _ c => zH (zD rfl (zD rfl (zB ?_)))
 refine c _ _ (zF fun _ c => zH (zG (zC hN rfl g) (zG (zC hN rfl f) (op_sub (r := ((b - a : Nat) : Int)) (zA hN rfl) (zA hN rfl) (by rw [IntKind.wrap_i64]; omega) (zD (zA hN rfl) (zB (c _ _ (zF fun _ c => zH (op_alloc (cs := [(.int .i64 0)]) zero3 rfl ?_)))))))))
 intro o g l m j k
 obtain ⟨hb, _⟩ := yE hb k
 refine zB (c _ _ (zF fun _ c => zH ?_))
 refine zG (zC hN rfl f) (zG (zA hN rfl) (op_quo (r := ((((b - a) / 4) : Nat) : Int)) (zA hN rfl) rfl zz (by rw [IntKind.wrap_i64, Int.tdiv_eq_ediv_of_nonneg zx]; omega) (op_mul (zA hN rfl) rfl (mul64 zx) (op_add (zA hN rfl) (zA hN rfl) (add64 zx) (zD (zA hN rfl) (zB (c _ _ (zF fun _ c => zH (zG (zC hN rfl f) ?_)))))))))
 refine zG (zA hN rfl) (op_quo (r := ((((b - a) / 4) : Nat) : Int)) (zA hN rfl) rfl zz (by rw [IntKind.wrap_i64, Int.tdiv_eq_ediv_of_nonneg zx]; omega) (op_mul (zA hN rfl) rfl (mul64 zx) (op_add (zA hN rfl) (zA hN rfl) (add64 zx) (zD (zA hN rfl) (zB (c _ _ (zF fun _ c => zH (zG (zC hN rfl f) (zG (zA hN rfl) ?_)))))))))
 refine op_quo (r := ((((b - a) / 4) : Nat) : Int)) (zA hN rfl) rfl zz (by rw [IntKind.wrap_i64, Int.tdiv_eq_ediv_of_nonneg zx]; omega) (op_mul (zA hN rfl) rfl (mul64 zx) (op_add (zA hN rfl) (zA hN rfl) (add64 zx) (zD (zA hN rfl) (zB (c _ _ (zF fun _ c => zF fun _ f => zH (zG (zA hN rfl) (op_geq (zA hN rfl) rfl (fun k => ?_) (fun k => ?_)))))))))
 ·
  refine zB (f _ _ (wp_cond_true (zA hN rfl) (zF fun _ f => zF fun _ k => zH (zG (zA hN rfl) (op_geq (zA hN rfl) rfl (fun l => ?_) (fun l => ?_))))))
  ·
   refine zB (k _ _ (wp_cond_true (zA hN rfl) (zF fun _ k => zH (zG (zC hN rfl e) (zG (zA hN rfl) ?_)))))
   have hv' := hv.keep0 (zQ hb)
   refine zj ok90 (medAdjW_ret d v _ w.heap.size g 0 (a + (((b - a) / 4) * 1)) _ (by first | assumption | (simp only [Array.size_setIfInBounds, swp_sz, siftDown_size]; assumption)) zx hv' zx j zx zx zx) ⟨(zA hN rfl), ⟨(zA hN rfl), ⟨(zA hN rfl), trivial⟩⟩⟩ ?_
   rintro _ t ⟨l, o, p, rfl, s, u, m⟩
   have := l.size
   have hb := below_step1 hb l hb.size zx
   refine zD (zA hN rfl) (zB (k _ _ (zF fun _ k => zH (zG (zC hN rfl e) (zG (zA hN rfl) ?_)))))
   have hv' := hv.keep0 (zQ hb)
   refine zj ok90 (medAdjW_ret d v _ w.heap.size g p (a + (((b - a) / 4) * 2)) _ (by first | assumption | (simp only [Array.size_setIfInBounds, swp_sz, siftDown_size]; assumption)) zx hv' zx m zx zx zx) ⟨(zA hN rfl), ⟨(zA hN rfl), ⟨(zA hN rfl), trivial⟩⟩⟩ ?_
   rintro _ u ⟨l, s, p, rfl, y, t, m⟩
   have := l.size
   have hb := below_step1 hb l hb.size zx
   refine zD (zA hN rfl) (zB (k _ _ (zH (zG (zC hN rfl e) (zG (zA hN rfl) ?_)))))
   have hv' := hv.keep0 (zQ hb)
   refine zj ok90 (medAdjW_ret d v _ w.heap.size g p (a + (((b - a) / 4) * 3)) _ (by first | assumption | (simp only [Array.size_setIfInBounds, swp_sz, siftDown_size]; assumption)) zx hv' zx m zx zx zx) ⟨(zA hN rfl), ⟨(zA hN rfl), ⟨(zA hN rfl), trivial⟩⟩⟩ ?_
   rintro _ z ⟨l, m, p, rfl, y, u, t⟩
   have := l.size
   have hb := below_step1 hb l hb.size zx
   refine zD (zA hN rfl) (zB (f _ _ (zH (zG (zC hN rfl e) (zG (zA hN rfl) (zG (zA hN rfl) (zG (zA hN rfl) ?_)))))))
   have hv' := hv.keep0 (zQ hb)
   refine zj ok91 (medianW_ret d v _ w.heap.size g p o s m _ (by first | assumption | (simp only [Array.size_setIfInBounds, swp_sz, siftDown_size]; assumption)) zx hv' zx t zx zx zx zx) ⟨(zA hN rfl), ⟨(zA hN rfl), ⟨(zA hN rfl), ⟨(zA hN rfl), ⟨(zA hN rfl), trivial⟩⟩⟩⟩⟩ ?_
   rintro _ t ⟨m, l, u, rfl, p, s, o⟩
   have := m.size
   have hb := below_step1 hb m hb.size zx
   refine zD (zA hN rfl) (zB (c _ _ (zF fun _ c => zH (zN one3 (zA hN rfl) (o.cell rfl) (zB (c _ _ (wp_block (zF fun _ c => zH (op_eql (zA hN rfl) rfl (fun m => ?_) (fun m => ?_))))))))))
   ·
    refine zD (zA hN rfl) (zB (c _ _ (wp_cond_true (zA hN rfl) (zF fun _ c => zH (zG (zA hN rfl) (zD (zA hN rfl) (zD rfl (zB (c _ _ (wp_ret (zb ( (ret2 rfl hd (zA hN rfl) (zA hN rfl) ⟨_, rfl, ?_⟩)))))))))))))
    exact ⟨hb, l, _, congrArg (fun q : Int => Value.tuple #[.int .i64 q, _]) zx, by omega, by omega⟩
   refine zD (zA hN rfl) (zB (c _ _ (wp_cond_false (zA hN rfl) (zF fun _ c => zH (op_eql (zA hN rfl) rfl (fun o => ?_) (fun o => ?_))))))
   ·
    refine zD (zA hN rfl) (zB (c _ _ (wp_cond_true (zA hN rfl) (zF fun _ c => zH (zG (zA hN rfl) (zD (zA hN rfl) (zD rfl (zB (c _ _ (wp_ret (zb ( (ret2 rfl hd (zA hN rfl) (zA hN rfl) ⟨_, rfl, ?_⟩)))))))))))))
    exact ⟨hb, l, _, congrArg (fun q : Int => Value.tuple #[.int .i64 q, _]) zx, by omega, by omega⟩
   refine zD (zA hN rfl) (zB (c _ _ (wp_cond_false (zA hN rfl) (zF fun _ c => zH (zG (zA hN rfl) (zD (zA hN rfl) (zD rfl (zB (c _ _ (wp_ret (zb ( (ret2 rfl hd (zA hN rfl) (zA hN rfl) ⟨_, rfl, ?_⟩)))))))))))))
   exact ⟨hb, l, _, congrArg (fun q : Int => Value.tuple #[.int .i64 q, _]) zx, by omega, by omega⟩
  refine zB (k _ _ (wp_cond_false (zA hN rfl) (wp_skip (f _ _ (zH (zG (zC hN rfl e) (zG (zA hN rfl) (zG (zA hN rfl) (zG (zA hN rfl) ?_)))))))))
  have hv' := hv.keep0 (zQ hb)
  refine zj ok91 (medianW_ret d v _ w.heap.size g 0 (a + (((b - a) / 4) * 1)) (a + (((b - a) / 4) * 2)) (a + (((b - a) / 4) * 3)) _ (by first | assumption | (simp only [Array.size_setIfInBounds, swp_sz, siftDown_size]; assumption)) zx hv' zx j zx zx zx zx) ⟨(zA hN rfl), ⟨(zA hN rfl), ⟨(zA hN rfl), ⟨(zA hN rfl), ⟨(zA hN rfl), trivial⟩⟩⟩⟩⟩ ?_
  rintro _ p ⟨g, e, s, rfl, t, l, k⟩
  have := g.size
  have hb := below_step1 hb g hb.size zx
  refine zD (zA hN rfl) (zB (c _ _ (zF fun _ c => zH (zN one3 (zA hN rfl) (k.cell rfl) (zB (c _ _ (wp_block (zF fun _ c => zH (op_eql (zA hN rfl) rfl (fun m => ?_) (fun m => ?_))))))))))
  ·
   refine zD (zA hN rfl) (zB (c _ _ (wp_cond_true (zA hN rfl) (zF fun _ c => zH (zG (zA hN rfl) (zD (zA hN rfl) (zD rfl (zB (c _ _ (wp_ret (zb ( (ret2 rfl hd (zA hN rfl) (zA hN rfl) ⟨_, rfl, ?_⟩)))))))))))))
   exact ⟨hb, e, _, congrArg (fun q : Int => Value.tuple #[.int .i64 q, _]) zx, by omega, by omega⟩
  refine zD (zA hN rfl) (zB (c _ _ (wp_cond_false (zA hN rfl) (zF fun _ c => zH (op_eql (zA hN rfl) rfl (fun o => ?_) (fun o => ?_))))))
  ·
   refine zD (zA hN rfl) (zB (c _ _ (wp_cond_true (zA hN rfl) (zF fun _ c => zH (zG (zA hN rfl) (zD (zA hN rfl) (zD rfl (zB (c _ _ (wp_ret (zb ( (ret2 rfl hd (zA hN rfl) (zA hN rfl) ⟨_, rfl, ?_⟩)))))))))))))
   exact ⟨hb, e, _, congrArg (fun q : Int => Value.tuple #[.int .i64 q, _]) zx, by omega, by omega⟩
  refine zD (zA hN rfl) (zB (c _ _ (wp_cond_false (zA hN rfl) (zF fun _ c => zH (zG (zA hN rfl) (zD (zA hN rfl) (zD rfl (zB (c _ _ (wp_ret (zb ( (ret2 rfl hd (zA hN rfl) (zA hN rfl) ⟨_, rfl, ?_⟩)))))))))))))
  exact ⟨hb, e, _, congrArg (fun q : Int => Value.tuple #[.int .i64 q, _]) zx, by omega, by omega⟩
 refine zB (f _ _ (wp_cond_false (zA hN rfl) (wp_skip (c _ _ (zF fun _ c => zH (zN one3 (zA hN rfl) (j.cell rfl) (zB (c _ _ (wp_block (zF fun _ c => zH ?_))))))))))
 refine op_bin (v := .bool true) (zA hN rfl) rfl (by rw [binOp_eql]; rfl) (zD (zA hN rfl) (zB (c _ _ (wp_cond_true (zA hN rfl) (zF fun _ c => zH (zG (zA hN rfl) (zD (zA hN rfl) (zD rfl (zB (c _ _ (wp_ret (zb ( (ret2 rfl hd (zA hN rfl) (zA hN rfl) ⟨_, rfl, ?_⟩))))))))))))))
 exact ⟨hb, (a + (((b - a) / 4) * 2)), _, congrArg (fun q : Int => Value.tuple #[.int .i64 q, _]) zx, by omega, by omega⟩
open Go.Sort (insertionSort insOuter insInner swp siftDown heapSort heapBuild heapPop scanUp scanDown partition partLoop partitionEqual partEqLoop scanSorted partialIns bitsLen partialInsertionSort shiftDown shiftUp SortedIn reverseRange reverseLoop fixDown fixUp)
set_option maxHeartbeats 2000000 in
theorem partEqW_ret (d : Ar) (v : Value) (n base : Nat) (a b pv : Nat) (w : World) (hd : d.size = n) (hn : n ≤ 4000000000000000000) (O : Own w base 57 1 v n (d.toList.map u64v)) (hap : a ≤ pv) (hpb : pv < b) (hbn : b ≤ n) : Ret Try.prog 74 #[v, (.int .i64 ((a : Nat) : Int)), (.int .i64 ((b : Nat) : Int)), (.int .i64 ((pv : Nat) : Int))] w (fun v' w' => w.grownBy w' v.ownBlock ∧ v' = .int .i64 ((partitionEqual ltT d a b pv).1 : Int) ∧ Own w' base 57 1 v n ((partitionEqual ltT d a b pv).2.toList.map u64v)) := by
 have hb := grown_refl w v.ownBlock
 refine enter (N := 84) Try.func74 rfl rfl (by simp) fun c hN hd hA => ?_
 have f : c.tmps.getD 0 undef = v := hA 0 (by simp)
 have g : c.tmps.getD 1 undef = (.int .i64 ((a : Nat) : Int)) := hA 1 (by simp)
 have k : c.tmps.getD 2 undef = (.int .i64 ((b : Nat) : Int)) := hA 2 (by simp)
 have l : c.tmps.getD 3 undef = (.int .i64 ((pv : Nat) : Int)) := hA 3 (by simp)
 clear hA
 refine zF fun _ c => zH (zD rfl (zB (c _ _ (zF fun _ c => reg_mid (e := 57) (sz := 1) (base := base) (n := n) (v := v) (Φ := phiL [(fun uz _ => uz = v), (fun uz _ => uz = (.int .i64 ((a : Nat) : Int))), (fun uz _ => uz = v), (fun uz _ => uz = (.int .i64 ((pv : Nat) : Int))), (fun uz _ => uz = v), (fun uz _ => uz = (.int .i64 ((pv : Nat) : Int))), (fun uz _ => ∃ bz oz, uz = ptr bz oz ∧ AtV v pv bz oz), (fun uz _ => uz = (.int .u64 (d[pv]!.toNat : Int))), (fun uz _ => uz = v), (fun uz _ => uz = (.int .i64 ((a : Nat) : Int))), (fun uz _ => ∃ bz oz, uz = ptr bz oz ∧ AtV v a bz oz), (fun uz _ => uz = (.int .u64 (d[a]!.toNat : Int))), (fun uz _ => ∃ bz oz, uz = ptr bz oz ∧ AtV v a bz oz), (fun _ _ => True), (fun uz _ => ∃ bz oz, uz = ptr bz oz ∧ AtV v pv bz oz), (fun _ _ => True)]) [13, 15] [(d.toList.map u64v), ((d.setIfInBounds a d[pv]!).toList.map u64v), (((d.setIfInBounds a d[pv]!).setIfInBounds pv d[a]!).toList.map u64v)] mixed zy zy zy zy hN O (StL.get (StL.eq (StL.eq (StL.eq (StL.eq (StL.eq (StL.eq (StL.at (StL.eq (StL.eq (StL.eq (StL.at (StL.eq (StL.at (StL.cons (fun _ _ _ _ h => h) (StL.at (StL.cons (fun _ _ _ _ h => h) (StL.nil _)))))))))))))))))) (ObRs.get (ObRs.cons ?_ (ObRs.cons ?_ (ObRs.cons ?_ (ObRs.cons ?_ (ObRs.cons ?_ (ObRs.cons ?_ (ObRs.cons ?_ (ObRs.cons ?_ (ObRs.cons ?_ (ObRs.cons ?_ (ObRs.cons ?_ (ObRs.cons ?_ (ObRs.cons ?_ (ObRs.pass rfl (ObRs.cons ?_ (ObRs.pass rfl (ObRs.nil)))))))))))))))))) (ObWs.get (ObWs.cons ?_ (ObWs.cons ?_ (ObWs.nil)))) ?_))))
 ·
  intro aA wA cA hNA hRA hckA hOA hbsA hdpA
  have m := (hbsA 0 rfl).trans (zL hN rfl f)
  clear hbsA hdpA
  refine zG (zC hNA rfl m) ?_
  exact obR_end rfl rfl (grown_refl _ _)
 ·
  intro aA wA cA hNA hRA hckA hOA hbsA hdpA
  have o := (hbsA 1 rfl).trans (zL hN rfl g)
  clear hbsA hdpA
  refine zG (zC hNA rfl o) ?_
  exact obR_end rfl rfl (grown_refl _ _)
 ·
  intro aA wA cA hNA hRA hckA hOA hbsA hdpA
  have m := (hbsA 0 rfl).trans (zL hN rfl f)
  clear hbsA hdpA
  refine zG (zC hNA rfl m) ?_
  exact obR_end rfl rfl (grown_refl _ _)
 ·
  intro aA wA cA hNA hRA hckA hOA hbsA hdpA
  have p := (hbsA 3 rfl).trans (zL hN rfl l)
  clear hbsA hdpA
  refine zG (zC hNA rfl p) ?_
  exact obR_end rfl rfl (grown_refl _ _)
 ·
  intro aA wA cA hNA hRA hckA hOA hbsA hdpA
  have m := (hbsA 0 rfl).trans (zL hN rfl f)
  clear hbsA hdpA
  refine zG (zC hNA rfl m) ?_
  exact obR_end rfl rfl (grown_refl _ _)
 ·
  intro aA wA cA hNA hRA hckA hOA hbsA hdpA
  have p := (hbsA 3 rfl).trans (zL hN rfl l)
  clear hbsA hdpA
  refine zG (zC hNA rfl p) ?_
  exact obR_end rfl rfl (grown_refl _ _)
 ·
  intro aA wA cA hNA hRA hckA hOA hbsA hdpA
  have l : Sl aA 15 v := hdpA 4 _ 15 zy rfl rfl
  have p : Sl aA 16 (.int .i64 ((pv : Nat) : Int)) := hdpA 5 _ 16 zy rfl rfl
  clear hbsA hdpA
  refine op_index_own (i := pv) slt62 (zC hNA rfl l) hOA (zC hNA rfl p) zx zx ?_
  intro b_ o_ _ hA_
  exact obR_end rfl ⟨b_, o_, rfl, by simpa using hA_⟩ (grown_refl _ _)
 ·
  intro aA wA cA hNA hRA hckA hOA hbsA hdpA
  obtain ⟨q, s, p, l⟩ := hdpA 6 _ 17 zy rfl rfl
  clear hbsA hdpA
  obtain rfl : cA = 0 := Nat.le_zero.1 (hckA 0 13 rfl zy)
  have hOA : Own wA base 57 1 v n (d.toList.map u64v) := hOA
  refine zN (v := (Value.int .u64 (d[pv]!.toNat : Int))) one57 (zC hNA rfl p) (by have := hOA.cellAt l 0 _ (el_at (i := pv) (by first | omega | (simp only [Array.size_setIfInBounds, swp_sz, siftDown_size]; omega))); simpa using this) ?_
  exact obR_end rfl rfl (grown_refl _ _)
 ·
  intro aA wA cA hNA hRA hckA hOA hbsA hdpA
  have m := (hbsA 0 rfl).trans (zL hN rfl f)
  clear hbsA hdpA
  refine zG (zC hNA rfl m) ?_
  exact obR_end rfl rfl (grown_refl _ _)
 ·
  intro aA wA cA hNA hRA hckA hOA hbsA hdpA
  have o := (hbsA 1 rfl).trans (zL hN rfl g)
  clear hbsA hdpA
  refine zG (zC hNA rfl o) ?_
  exact obR_end rfl rfl (grown_refl _ _)
 ·
  intro aA wA cA hNA hRA hckA hOA hbsA hdpA
  have l : Sl aA 19 v := hdpA 8 _ 19 zy rfl rfl
  have o : Sl aA 20 (.int .i64 ((a : Nat) : Int)) := hdpA 9 _ 20 zy rfl rfl
  clear hbsA hdpA
  refine op_index_own (i := a) slt62 (zC hNA rfl l) hOA (zC hNA rfl o) zx zx ?_
  intro b_ o_ _ hA_
  exact obR_end rfl ⟨b_, o_, rfl, by simpa using hA_⟩ (grown_refl _ _)
 ·
  intro aA wA cA hNA hRA hckA hOA hbsA hdpA
  obtain ⟨q, p, o, l⟩ := hdpA 10 _ 21 zy rfl rfl
  clear hbsA hdpA
  obtain rfl : cA = 0 := Nat.le_zero.1 (hckA 0 13 rfl zy)
  have hOA : Own wA base 57 1 v n (d.toList.map u64v) := hOA
  refine zN (v := (Value.int .u64 (d[a]!.toNat : Int))) one57 (zC hNA rfl o) (by have := hOA.cellAt l 0 _ (el_at (i := a) (by first | omega | (simp only [Array.size_setIfInBounds, swp_sz, siftDown_size]; omega))); simpa using this) ?_
  exact obR_end rfl rfl (grown_refl _ _)
 ·
  intro aA wA cA hNA hRA hckA hOA hbsA hdpA
  have l : Sl aA 11 v := hdpA 0 _ 11 zy rfl rfl
  have o : Sl aA 12 (.int .i64 ((a : Nat) : Int)) := hdpA 1 _ 12 zy rfl rfl
  clear hbsA hdpA
  refine op_index_own (i := a) slt62 (zC hNA rfl l) hOA (zC hNA rfl o) zx zx ?_
  intro b_ o_ _ hA_
  exact obR_end rfl ⟨b_, o_, rfl, by simpa using hA_⟩ (grown_refl _ _)
 ·
  intro aA wA cA hNA hRA hckA hOA hbsA hdpA
  have l : Sl aA 13 v := hdpA 2 _ 13 zy rfl rfl
  have o : Sl aA 14 (.int .i64 ((pv : Nat) : Int)) := hdpA 3 _ 14 zy rfl rfl
  clear hbsA hdpA
  refine op_index_own (i := pv) slt62 (zC hNA rfl l) hOA (zC hNA rfl o) zx zx ?_
  intro b_ o_ _ hA_
  exact obR_end rfl ⟨b_, o_, rfl, by simpa using hA_⟩ (grown_refl _ _)
 ·
  intro o_ ho_; obtain rfl := zE ho_; intro aA wA hNA hRA hbsA hdpA hOA
  obtain ⟨q, p, l, o⟩ := hdpA 12 _ 23 zy rfl rfl
  have p : Sl aA 18 (.int .u64 (d[pv]!.toNat : Int)) := hdpA 7 _ 18 zy rfl rfl
  clear hbsA hdpA
  have hOA : Own wA base 57 1 v n (d.toList.map u64v) := hOA
  refine op_store_own (vs := [(.int .u64 (d[pv]!.toNat : Int))]) size57 (zC hNA rfl l) (zC hNA rfl p) rfl rfl rfl hOA o (by have := hOA.1; simp at this ⊢; omega) ?_
  intro w_ hO_ E_
  exact obW_end rfl (hO_.cast rfl (set_arr (by first | omega | (simp only [Array.size_setIfInBounds, swp_sz, siftDown_size]; omega)))) E_
 ·
  intro o_ ho_; obtain rfl := zE ho_; intro aA wA hNA hRA hbsA hdpA hOA
  obtain ⟨q, p, l, o⟩ := hdpA 14 _ 24 zy rfl rfl
  have p : Sl aA 22 (.int .u64 (d[a]!.toNat : Int)) := hdpA 11 _ 22 zy rfl rfl
  clear hbsA hdpA
  have hOA : Own wA base 57 1 v n ((d.setIfInBounds a d[pv]!).toList.map u64v) := hOA
  refine op_store_own (vs := [(.int .u64 (d[a]!.toNat : Int))]) size57 (zC hNA rfl l) (zC hNA rfl p) rfl rfl rfl hOA o (by have := hOA.1; simp at this ⊢; omega) ?_
  intro w_ hO_ E_
  exact obW_end rfl (hO_.cast rfl (set_arr (by first | omega | (simp only [Array.size_setIfInBounds, swp_sz, siftDown_size]; omega)))) E_
 intro y s l p o u q t
 have p := p.trans hd
 have y := (o 0 rfl).trans (zL hN rfl f)
 have f := (o 1 rfl).trans (zL hN rfl g)
 have g := (o 2 rfl).trans (zL hN rfl k)
 have k := (o 8 rfl).trans (zU hN rfl)
 clear o u
 have q : Own s base 57 1 v n (((d.setIfInBounds a d[pv]!).setIfInBounds pv d[a]!).toList.map u64v) := q
 have := t.size
 have hb := grow_stepX hb t rfl
 refine c _ _ (zF fun _ c => zH ?_)
 refine zG (zC l rfl f) (op_add (zA l rfl) rfl (add64 zx) (zG (zC l rfl g) (op_sub (r := ((b - 1 : Nat) : Int)) (zA l rfl) rfl (by rw [IntKind.wrap_i64]; omega) (zD (zA l rfl) (zD (zA l rfl) (zB (c _ _ (zF fun _ c => wp_block (loop_m (fun mz_ az_ w' => ∃ (ii jj : Nat) (dk : Ar), mz_ = (jj + 2 - ii) ∧ (Sl az_ 0 v) ∧ (Sl az_ 1 (.int .i64 ((a : Nat) : Int))) ∧ (Sl az_ 8 (.int .i64 0)) ∧ (Sl az_ 9 (.int .i64 ((ii : Nat) : Int))) ∧ (Sl az_ 10 (.int .i64 ((jj : Nat) : Int))) ∧ (dk.size = n) ∧ (a < ii ∧ ii ≤ jj + 1 ∧ jj < b) ∧ (partEqLoop ltT a (a + 1) (b - 1) (swp d a pv) = partEqLoop ltT a ii jj dk) ∧ (w.grownBy w' v.ownBlock) ∧ (s.heap.size ≤ w'.heap.size) ∧ (Own w' base 57 1 v n (dk.toList.map u64v))) _ l p ⟨(a + 1), (b - 1), _, rfl, (zL l rfl y), (zL l rfl f), (zL l rfl k), (zU l rfl).trans (congrArg (Value.int .i64) zx), (zU l rfl).trans (congrArg (Value.int .i64) zx), (by first | assumption | (simp only [Array.size_setIfInBounds, swp_sz, siftDown_size]; assumption)), zx, rfl, hb, (Nat.le_refl _), q⟩ ?_)))))))))
 rintro _ u s g t ⟨ii, jj, dk, rfl, k, p, q, o, l, hdk, y, hs, hb, z, f⟩
 have := hb.size
 refine wp_block (zF fun _ y => wp_block (loop_m (fun mz_ az_ w' => ∃ (u : Nat), mz_ = (jj + 1 - u) ∧ (Sl az_ 0 v) ∧ (Sl az_ 1 (.int .i64 ((a : Nat) : Int))) ∧ (Sl az_ 8 (.int .i64 0)) ∧ (Sl az_ 10 (.int .i64 ((jj : Nat) : Int))) ∧ (Sl az_ 9 (.int .i64 ((u : Nat) : Int))) ∧ (ii ≤ u ∧ u ≤ jj + 1) ∧ (scanUp (fun x => !ltT dk[a]! x) dk jj ii = scanUp (fun x => !ltT dk[a]! x) dk jj u) ∧ (w.grownBy w' v.ownBlock) ∧ (s.heap.size ≤ w'.heap.size) ∧ (Own w' base 57 1 v n (dk.toList.map u64v))) _ g t ⟨ii, rfl, (zL g rfl k), (zL g rfl p), (zL g rfl q), (zL g rfl l), (zL g rfl o).trans (congrArg (Value.int .i64) zx), zx, rfl, hb, (Nat.le_refl _), f⟩ ?_))
 rintro _ C z g s ⟨u, rfl, k, p, q, o, l, A, t, hb, B, f⟩
 have := hb.size
 refine zF fun _ z => zF fun _ A => reg_still mixed zy ?_
 intro C B
 have := B.size
 have f := f.keep0 B
 have hb := grow_step0 hb B
 refine st_step rfl (fun _ B => zG (zC g rfl l) B) (st_step rfl (fun _ B => zG (zC g rfl o) B) ?_)
 by_cases D : ((u : Nat) : Int) ≤ ((jj : Nat) : Int)
 ·
  refine st_step rfl (fun _ B => op_cmp (b := true) (zA g rfl) (zA g rfl) (b_leq (decide_eq_true D)) B) (st_step rfl (fun _ B => zG (zA g rfl) B) (st_g_true (j := 3) (dj := 32) (b := true) rfl rfl rfl (zA g rfl) (st_step rfl (fun _ B => zG (zC g rfl k) B) (st_g_true (j := 3) (dj := 32) (b := true) rfl rfl rfl (zA g rfl) (st_step rfl (fun _ B => zG (zC g rfl p) B) (st_g_true (j := 3) (dj := 32) (b := true) rfl rfl rfl (zA g rfl) (st_index_rd slt62 (zA g rfl) f.rdw (zA g rfl) zx zx ?_)))))))
  intro I H G F E
  refine st_g_true (j := 3) (dj := 32) (b := true) rfl rfl rfl (zA g rfl) (st_step rfl (fun _ B => zN (v := (Value.int .u64 (dk[a]!.toNat : Int))) one57 (zA g rfl) (by have := E 0 (.int .u64 (dk[a]!.toNat : Int)) zz (el_arr (i := a) zx (by first | omega | (simp only [Array.size_setIfInBounds, swp_sz, siftDown_size]; omega))); simpa using this) B) (st_g_true (j := 3) (dj := 32) (b := true) rfl rfl rfl (zA g rfl) (st_step rfl (fun _ B => zG (zC g rfl k) B) (st_g_true (j := 3) (dj := 32) (b := true) rfl rfl rfl (zA g rfl) (st_step rfl (fun _ B => zG (zC g rfl l) B) (st_g_true (j := 3) (dj := 32) (b := true) rfl rfl rfl (zA g rfl) (st_index_rd slt62 (zA g rfl) f.rdw (zA g rfl) zx zx ?_)))))))
  intro H I G F E
  refine st_g_true (j := 3) (dj := 32) (b := true) rfl rfl rfl (zA g rfl) (st_step rfl (fun _ B => zN (v := (Value.int .u64 (dk[u]!.toNat : Int))) one57 (zA g rfl) (by have := E 0 (.int .u64 (dk[u]!.toNat : Int)) zz (el_arr (i := u) zx (by first | omega | (simp only [Array.size_setIfInBounds, swp_sz, siftDown_size]; omega))); simpa using this) B) (st_g_true (j := 3) (dj := 32) (b := true) rfl rfl rfl (zA g rfl) (st_fn (vs := [(.int .u64 (dk[a]!.toNat : Int)), (.int .u64 (dk[u]!.toNat : Int))]) ok73 (⟨(zA g rfl), ⟨(zA g rfl), trivial⟩⟩) (Less16_ret dk[a]! dk[u]! _) (st_g_true (j := 3) (dj := 32) (b := true) rfl rfl rfl (zA g rfl) (st_step rfl (fun _ B => op_not (zA g rfl) B) (st_step rfl (fun _ B => zc (zA g rfl) (zA g rfl) B) (st_nil (A _ _ (wp_cond_split (zA g rfl) (fun F => ?_) (fun F => ?_))))))))))
  ·
   refine wp_skip (z _ _ (wp_block (zH (zG (zC g rfl l) (op_add (zA g rfl) rfl (add64 zx) (zD (zA g rfl) (zB (blk_normal ?_))))))))
   -- round 31T 43T
   exact zg _ g s ⟨(u + 1), rfl, (zL g rfl k), (zL g rfl p), (zL g rfl q), (zL g rfl o), (zU g rfl).trans (congrArg (Value.int .i64) zx), zx, (t.trans (scanUp_go zx F)), hb, zx, f⟩ zx
  refine wp_exit (then_exit (then_exit (blk_hit (y _ _ (zF fun _ y => wp_block ?_)))))
  have E : scanUp (fun x => !ltT dk[a]! x) dk jj ii = u := t.trans (scanUp_stop (.inr F))
  refine loop_m (fun mz_ az_ w' => ∃ (G : Nat), mz_ = (G + 1) ∧ (Sl az_ 0 v) ∧ (Sl az_ 1 (.int .i64 ((a : Nat) : Int))) ∧ (Sl az_ 8 (.int .i64 0)) ∧ (Sl az_ 9 (.int .i64 ((u : Nat) : Int))) ∧ (Sl az_ 10 (.int .i64 ((G : Nat) : Int))) ∧ (G ≤ jj ∧ u ≤ G + 1) ∧ (scanDown (fun x => ltT dk[a]! x) dk u jj = scanDown (fun x => ltT dk[a]! x) dk u G) ∧ (w.grownBy w' v.ownBlock) ∧ (C.heap.size ≤ w'.heap.size) ∧ (Own w' base 57 1 v n (dk.toList.map u64v))) _ g s ⟨jj, rfl, (zL g rfl k), (zL g rfl p), (zL g rfl q), (zL g rfl l), (zL g rfl o).trans (congrArg (Value.int .i64) zx), zx, rfl, hb, (Nat.le_refl _), f⟩ ?_
  rintro _ S T H M ⟨G, rfl, I, P, Q, J, L, R, K, hb, U, f⟩
  have := hb.size
  refine zF fun _ z => zF fun _ A => reg_still mixed zy ?_
  intro T S
  have := S.size
  have f := f.keep0 S
  have hb := grow_step0 hb S
  refine st_step rfl (fun _ B => zG (zC H rfl J) B) (st_step rfl (fun _ B => zG (zC H rfl L) B) ?_)
  by_cases S : ((u : Nat) : Int) ≤ ((G : Nat) : Int)
  ·
   refine st_step rfl (fun _ B => op_cmp (b := true) (zA H rfl) (zA H rfl) (b_leq (decide_eq_true S)) B) (st_step rfl (fun _ B => zG (zA H rfl) B) (st_g_true (j := 3) (dj := 49) (b := true) rfl rfl rfl (zA H rfl) (st_step rfl (fun _ B => zG (zC H rfl I) B) (st_g_true (j := 3) (dj := 49) (b := true) rfl rfl rfl (zA H rfl) (st_step rfl (fun _ B => zG (zC H rfl P) B) (st_g_true (j := 3) (dj := 49) (b := true) rfl rfl rfl (zA H rfl) (st_index_rd slt62 (zA H rfl) f.rdw (zA H rfl) zx zx ?_)))))))
   intro V X W U T
   refine st_g_true (j := 3) (dj := 49) (b := true) rfl rfl rfl (zA H rfl) (st_step rfl (fun _ B => zN (v := (Value.int .u64 (dk[a]!.toNat : Int))) one57 (zA H rfl) (by have := T 0 (.int .u64 (dk[a]!.toNat : Int)) zz (el_arr (i := a) zx (by first | omega | (simp only [Array.size_setIfInBounds, swp_sz, siftDown_size]; omega))); simpa using this) B) (st_g_true (j := 3) (dj := 49) (b := true) rfl rfl rfl (zA H rfl) (st_step rfl (fun _ B => zG (zC H rfl I) B) (st_g_true (j := 3) (dj := 49) (b := true) rfl rfl rfl (zA H rfl) (st_step rfl (fun _ B => zG (zC H rfl L) B) (st_g_true (j := 3) (dj := 49) (b := true) rfl rfl rfl (zA H rfl) (st_index_rd slt62 (zA H rfl) f.rdw (zA H rfl) zx zx ?_)))))))
   intro W U X V T
   refine st_g_true (j := 3) (dj := 49) (b := true) rfl rfl rfl (zA H rfl) (st_step rfl (fun _ B => zN (v := (Value.int .u64 (dk[G]!.toNat : Int))) one57 (zA H rfl) (by have := T 0 (.int .u64 (dk[G]!.toNat : Int)) zz (el_arr (i := G) zx (by first | omega | (simp only [Array.size_setIfInBounds, swp_sz, siftDown_size]; omega))); simpa using this) B) (st_g_true (j := 3) (dj := 49) (b := true) rfl rfl rfl (zA H rfl) (st_fn (vs := [(.int .u64 (dk[a]!.toNat : Int)), (.int .u64 (dk[G]!.toNat : Int))]) ok73 (⟨(zA H rfl), ⟨(zA H rfl), trivial⟩⟩) (Less16_ret dk[a]! dk[G]! _) (st_step rfl (fun _ B => zc (zA H rfl) (zA H rfl) B) (st_nil (A _ _ (wp_cond_split (zA H rfl) (fun U => ?_) (fun U => ?_))))))))
   ·
    refine wp_skip (z _ _ (wp_block (zH (zG (zC H rfl L) (op_sub (zA H rfl) rfl (sub64 zx) (zD (zA H rfl) (zB (blk_normal ?_))))))))
    -- round 31T 43F 48T 59T
    exact zg _ H M ⟨(G - 1), rfl, (zL H rfl I), (zL H rfl P), (zL H rfl Q), (zL H rfl J), (zU H rfl).trans (congrArg (Value.int .i64) zx), zx, (K.trans (scanDown_go zx zx U)), hb, zx, f⟩ zx
   refine wp_exit (then_exit (then_exit (blk_hit (y _ _ (zF fun _ y => zF fun _ z => zH (zG (zC H rfl J) (zG (zC H rfl L) (op_gtr (zA H rfl) (zA H rfl) (fun T => ?_) (fun T => ?_)))))))))
   ·
    refine zB (z _ _ (wp_cond_true (zA H rfl) (wp_exit (then_exit (blk_miss zz (then_exit (blk_hit (c _ _ (zF fun _ c => zH (zG (zC H rfl J) (zD (zA H rfl) (zB (c _ _ (wp_ret (ret1 rfl M (zA H rfl) ⟨_, rfl, ?_⟩)))))))))))))))
    have V : scanDown (fun x => ltT dk[a]! x) dk u jj = G := K.trans (scanDown_stop (.inr U))
    have hq : partitionEqual ltT d a b pv = (u, dk) := hs.trans (pe_stop E V zx)
    exact ⟨hb, by first | (rw [hq]; done) | (rw [hq]; rfl), f.cast rfl (by rw [hq])⟩
   refine zB (z _ _ (wp_cond_false (zA H rfl) (wp_skip (y _ _ (zF fun _ y => reg_mid (e := 57) (sz := 1) (base := base) (n := n) (v := v) (Φ := phiL [(fun uz _ => uz = v), (fun uz _ => uz = (.int .i64 ((u : Nat) : Int))), (fun uz _ => uz = v), (fun uz _ => uz = (.int .i64 ((G : Nat) : Int))), (fun uz _ => uz = v), (fun uz _ => uz = (.int .i64 ((G : Nat) : Int))), (fun uz _ => ∃ bz oz, uz = ptr bz oz ∧ AtV v G bz oz), (fun uz _ => uz = (.int .u64 (dk[G]!.toNat : Int))), (fun uz _ => uz = v), (fun uz _ => uz = (.int .i64 ((u : Nat) : Int))), (fun uz _ => ∃ bz oz, uz = ptr bz oz ∧ AtV v u bz oz), (fun uz _ => uz = (.int .u64 (dk[u]!.toNat : Int))), (fun uz _ => ∃ bz oz, uz = ptr bz oz ∧ AtV v u bz oz), (fun _ _ => True), (fun uz _ => ∃ bz oz, uz = ptr bz oz ∧ AtV v G bz oz), (fun _ _ => True)]) [13, 15] [(dk.toList.map u64v), ((dk.setIfInBounds u dk[G]!).toList.map u64v), (((dk.setIfInBounds u dk[G]!).setIfInBounds G dk[u]!).toList.map u64v)] mixed zy zy zy zy H f (StL.get (StL.eq (StL.eq (StL.eq (StL.eq (StL.eq (StL.eq (StL.at (StL.eq (StL.eq (StL.eq (StL.at (StL.eq (StL.at (StL.cons (fun _ _ _ _ h => h) (StL.at (StL.cons (fun _ _ _ _ h => h) (StL.nil _)))))))))))))))))) (ObRs.get (ObRs.cons ?_ (ObRs.cons ?_ (ObRs.cons ?_ (ObRs.cons ?_ (ObRs.cons ?_ (ObRs.cons ?_ (ObRs.cons ?_ (ObRs.cons ?_ (ObRs.cons ?_ (ObRs.cons ?_ (ObRs.cons ?_ (ObRs.cons ?_ (ObRs.cons ?_ (ObRs.pass rfl (ObRs.cons ?_ (ObRs.pass rfl (ObRs.nil)))))))))))))))))) (ObWs.get (ObWs.cons ?_ (ObWs.cons ?_ (ObWs.nil)))) ?_)))))
   ·
    intro aA wA cA hNA hRA hckA hOA hbsA hdpA
    have m := (hbsA 0 rfl).trans (zL H rfl I)
    clear hbsA hdpA
    refine zG (zC hNA rfl m) ?_
    exact obR_end rfl rfl (grown_refl _ _)
   ·
    intro aA wA cA hNA hRA hckA hOA hbsA hdpA
    have W := (hbsA 9 rfl).trans (zL H rfl J)
    clear hbsA hdpA
    refine zG (zC hNA rfl W) ?_
    exact obR_end rfl rfl (grown_refl _ _)
   ·
    intro aA wA cA hNA hRA hckA hOA hbsA hdpA
    have m := (hbsA 0 rfl).trans (zL H rfl I)
    clear hbsA hdpA
    refine zG (zC hNA rfl m) ?_
    exact obR_end rfl rfl (grown_refl _ _)
   ·
    intro aA wA cA hNA hRA hckA hOA hbsA hdpA
    have X := (hbsA 10 rfl).trans (zL H rfl L)
    clear hbsA hdpA
    refine zG (zC hNA rfl X) ?_
    exact obR_end rfl rfl (grown_refl _ _)
   ·
    intro aA wA cA hNA hRA hckA hOA hbsA hdpA
    have m := (hbsA 0 rfl).trans (zL H rfl I)
    clear hbsA hdpA
    refine zG (zC hNA rfl m) ?_
    exact obR_end rfl rfl (grown_refl _ _)
   ·
    intro aA wA cA hNA hRA hckA hOA hbsA hdpA
    have X := (hbsA 10 rfl).trans (zL H rfl L)
    clear hbsA hdpA
    refine zG (zC hNA rfl X) ?_
    exact obR_end rfl rfl (grown_refl _ _)
   ·
    intro aA wA cA hNA hRA hckA hOA hbsA hdpA
    have Y : Sl aA 69 v := hdpA 4 _ 69 zy rfl rfl
    have Z : Sl aA 70 (.int .i64 ((G : Nat) : Int)) := hdpA 5 _ 70 zy rfl rfl
    clear hbsA hdpA
    refine op_index_own (i := G) slt62 (zC hNA rfl Y) hOA (zC hNA rfl Z) zx zx ?_
    intro b_ o_ _ hA_
    exact obR_end rfl ⟨b_, o_, rfl, by simpa using hA_⟩ (grown_refl _ _)
   ·
    intro aA wA cA hNA hRA hckA hOA hbsA hdpA
    obtain ⟨ad, ac, aa, ab⟩ := hdpA 6 _ 71 zy rfl rfl
    clear hbsA hdpA
    obtain rfl : cA = 0 := Nat.le_zero.1 (hckA 0 13 rfl zy)
    have hOA : Own wA base 57 1 v n (dk.toList.map u64v) := hOA
    refine zN (v := (Value.int .u64 (dk[G]!.toNat : Int))) one57 (zC hNA rfl aa) (by have := hOA.cellAt ab 0 _ (el_at (i := G) (by first | omega | (simp only [Array.size_setIfInBounds, swp_sz, siftDown_size]; omega))); simpa using this) ?_
    exact obR_end rfl rfl (grown_refl _ _)
   ·
    intro aA wA cA hNA hRA hckA hOA hbsA hdpA
    have m := (hbsA 0 rfl).trans (zL H rfl I)
    clear hbsA hdpA
    refine zG (zC hNA rfl m) ?_
    exact obR_end rfl rfl (grown_refl _ _)
   ·
    intro aA wA cA hNA hRA hckA hOA hbsA hdpA
    have W := (hbsA 9 rfl).trans (zL H rfl J)
    clear hbsA hdpA
    refine zG (zC hNA rfl W) ?_
    exact obR_end rfl rfl (grown_refl _ _)
   ·
    intro aA wA cA hNA hRA hckA hOA hbsA hdpA
    have ae : Sl aA 73 v := hdpA 8 _ 73 zy rfl rfl
    have af : Sl aA 74 (.int .i64 ((u : Nat) : Int)) := hdpA 9 _ 74 zy rfl rfl
    clear hbsA hdpA
    refine op_index_own (i := u) slt62 (zC hNA rfl ae) hOA (zC hNA rfl af) zx zx ?_
    intro b_ o_ _ hA_
    exact obR_end rfl ⟨b_, o_, rfl, by simpa using hA_⟩ (grown_refl _ _)
   ·
    intro aA wA cA hNA hRA hckA hOA hbsA hdpA
    obtain ⟨aj, ai, ah, ag⟩ := hdpA 10 _ 75 zy rfl rfl
    clear hbsA hdpA
    obtain rfl : cA = 0 := Nat.le_zero.1 (hckA 0 13 rfl zy)
    have hOA : Own wA base 57 1 v n (dk.toList.map u64v) := hOA
    refine zN (v := (Value.int .u64 (dk[u]!.toNat : Int))) one57 (zC hNA rfl ah) (by have := hOA.cellAt ag 0 _ (el_at (i := u) (by first | omega | (simp only [Array.size_setIfInBounds, swp_sz, siftDown_size]; omega))); simpa using this) ?_
    exact obR_end rfl rfl (grown_refl _ _)
   ·
    intro aA wA cA hNA hRA hckA hOA hbsA hdpA
    have ak : Sl aA 65 v := hdpA 0 _ 65 zy rfl rfl
    have al : Sl aA 66 (.int .i64 ((u : Nat) : Int)) := hdpA 1 _ 66 zy rfl rfl
    clear hbsA hdpA
    refine op_index_own (i := u) slt62 (zC hNA rfl ak) hOA (zC hNA rfl al) zx zx ?_
    intro b_ o_ _ hA_
    exact obR_end rfl ⟨b_, o_, rfl, by simpa using hA_⟩ (grown_refl _ _)
   ·
    intro aA wA cA hNA hRA hckA hOA hbsA hdpA
    have am : Sl aA 67 v := hdpA 2 _ 67 zy rfl rfl
    have an : Sl aA 68 (.int .i64 ((G : Nat) : Int)) := hdpA 3 _ 68 zy rfl rfl
    clear hbsA hdpA
    refine op_index_own (i := G) slt62 (zC hNA rfl am) hOA (zC hNA rfl an) zx zx ?_
    intro b_ o_ _ hA_
    exact obR_end rfl ⟨b_, o_, rfl, by simpa using hA_⟩ (grown_refl _ _)
   ·
    intro o_ ho_; obtain rfl := zE ho_; intro aA wA hNA hRA hbsA hdpA hOA
    obtain ⟨aq, ar, ao, ap⟩ := hdpA 12 _ 77 zy rfl rfl
    have au : Sl aA 72 (.int .u64 (dk[G]!.toNat : Int)) := hdpA 7 _ 72 zy rfl rfl
    clear hbsA hdpA
    have hOA : Own wA base 57 1 v n (dk.toList.map u64v) := hOA
    refine op_store_own (vs := [(.int .u64 (dk[G]!.toNat : Int))]) size57 (zC hNA rfl ao) (zC hNA rfl au) rfl rfl rfl hOA ap (by have := hOA.1; simp at this ⊢; omega) ?_
    intro w_ hO_ E_
    exact obW_end rfl (hO_.cast rfl (set_arr (by first | omega | (simp only [Array.size_setIfInBounds, swp_sz, siftDown_size]; omega)))) E_
   ·
    intro o_ ho_; obtain rfl := zE ho_; intro aA wA hNA hRA hbsA hdpA hOA
    obtain ⟨ax, ay, aw, av⟩ := hdpA 14 _ 78 zy rfl rfl
    have az : Sl aA 76 (.int .u64 (dk[u]!.toNat : Int)) := hdpA 11 _ 76 zy rfl rfl
    clear hbsA hdpA
    have hOA : Own wA base 57 1 v n ((dk.setIfInBounds u dk[G]!).toList.map u64v) := hOA
    refine op_store_own (vs := [(.int .u64 (dk[u]!.toNat : Int))]) size57 (zC hNA rfl aw) (zC hNA rfl az) rfl rfl rfl hOA av (by have := hOA.1; simp at this ⊢; omega) ?_
    intro w_ hO_ E_
    exact obW_end rfl (hO_.cast rfl (set_arr (by first | omega | (simp only [Array.size_setIfInBounds, swp_sz, siftDown_size]; omega)))) E_
   intro aI aH aB aD aC aG aE aF
   have aD := aD.trans M
   have aI := (aC 0 rfl).trans (zL H rfl I)
   have aJ := (aC 1 rfl).trans (zL H rfl P)
   have aK := (aC 8 rfl).trans (zL H rfl Q)
   have aL := (aC 9 rfl).trans (zL H rfl J)
   have aM := (aC 10 rfl).trans (zL H rfl L)
   clear aC aG
   have aE : Own aH base 57 1 v n (((dk.setIfInBounds u dk[G]!).setIfInBounds G dk[u]!).toList.map u64v) := aE
   have := aF.size
   have hb := grow_stepX hb aF rfl
   refine y _ _ (zF fun _ y => zH ?_)
   refine zG (zC aB rfl aL) (op_add (zA aB rfl) rfl (add64 zx) (zD (zA aB rfl) (zB (y _ _ (zH (zG (zC aB rfl aM) (op_sub (zA aB rfl) rfl (sub64 zx) (zD (zA aB rfl) (zB (blk_normal ?_))))))))))
   -- round 31T 43F 48T 59F 64F
   have V : scanDown (fun x => ltT dk[a]! x) dk u jj = G := K.trans (scanDown_stop (.inr U))
   have hne : u ≠ G := by first | omega | (intro hh; subst hh; rw [U] at F; simp at F)
   exact zg _ aB aD ⟨(u + 1), (G - 1), _, rfl, (zL aB rfl aI), (zL aB rfl aJ), (zL aB rfl aK), (zU aB rfl).trans (congrArg (Value.int .i64) zx), (zU aB rfl).trans (congrArg (Value.int .i64) zx), (by first | assumption | (simp only [Array.size_setIfInBounds, swp_sz, siftDown_size]; assumption)), zx, (hs.trans (pe_go E V zx)), hb, zx, aE⟩ zx
  refine st_step rfl (fun _ B => op_cmp (b := false) (zA H rfl) (zA H rfl) (b_leq (decide_eq_false S)) B) (st_step rfl (fun _ B => zG (zA H rfl) B) (st_g_false (j := 3) (dj := 49) (b := true) rfl rfl rfl (zA H rfl) rfl rfl (st_g_false (j := 3) (dj := 49) (b := true) rfl rfl rfl (zA H rfl) rfl rfl (st_g_false (j := 3) (dj := 49) (b := true) rfl rfl rfl (zA H rfl) rfl rfl (st_g_false (j := 3) (dj := 49) (b := true) rfl rfl rfl (zA H rfl) rfl rfl (st_g_false (j := 3) (dj := 49) (b := true) rfl rfl rfl (zA H rfl) rfl rfl (st_g_false (j := 3) (dj := 49) (b := true) rfl rfl rfl (zA H rfl) rfl rfl (st_g_false (j := 3) (dj := 49) (b := true) rfl rfl rfl (zA H rfl) rfl rfl (st_g_false (j := 3) (dj := 49) (b := true) rfl rfl rfl (zA H rfl) rfl rfl ?_)))))))))
  refine st_g_false (j := 3) (dj := 49) (b := true) rfl rfl rfl (zA H rfl) rfl rfl (st_step rfl (fun _ B => zd (zA H rfl) rfl B) (st_nil (A _ _ (wp_cond_false (zA H rfl) (wp_exit (then_exit (then_exit (blk_hit (y _ _ (zF fun _ y => zF fun _ z => zH (zG (zC H rfl J) (zG (zC H rfl L) (op_gtr (zA H rfl) (zA H rfl) (fun T => ?_) (fun T => ?_))))))))))))))
  ·
   refine zB (z _ _ (wp_cond_true (zA H rfl) (wp_exit (then_exit (blk_miss zz (then_exit (blk_hit (c _ _ (zF fun _ c => zH (zG (zC H rfl J) (zD (zA H rfl) (zB (c _ _ (wp_ret (ret1 rfl M (zA H rfl) ⟨_, rfl, ?_⟩)))))))))))))))
   have V : scanDown (fun x => ltT dk[a]! x) dk u jj = G := K.trans (scanDown_stop (.inl zx))
   have hq : partitionEqual ltT d a b pv = (u, dk) := hs.trans (pe_stop E V zx)
   exact ⟨hb, by first | (rw [hq]; done) | (rw [hq]; rfl), f.cast rfl (by rw [hq])⟩
  refine zB (z _ _ (wp_cond_false (zA H rfl) (wp_skip (y _ _ (zF fun _ y => reg_mid (e := 57) (sz := 1) (base := base) (n := n) (v := v) (Φ := phiL [(fun uz _ => uz = v), (fun uz _ => uz = (.int .i64 ((u : Nat) : Int))), (fun uz _ => uz = v), (fun uz _ => uz = (.int .i64 ((G : Nat) : Int))), (fun uz _ => uz = v), (fun uz _ => uz = (.int .i64 ((G : Nat) : Int))), (fun uz _ => ∃ bz oz, uz = ptr bz oz ∧ AtV v G bz oz), (fun uz _ => uz = (.int .u64 (dk[G]!.toNat : Int))), (fun uz _ => uz = v), (fun uz _ => uz = (.int .i64 ((u : Nat) : Int))), (fun uz _ => ∃ bz oz, uz = ptr bz oz ∧ AtV v u bz oz), (fun uz _ => uz = (.int .u64 (dk[u]!.toNat : Int))), (fun uz _ => ∃ bz oz, uz = ptr bz oz ∧ AtV v u bz oz), (fun _ _ => True), (fun uz _ => ∃ bz oz, uz = ptr bz oz ∧ AtV v G bz oz), (fun _ _ => True)]) [13, 15] [(dk.toList.map u64v), ((dk.setIfInBounds u dk[G]!).toList.map u64v), (((dk.setIfInBounds u dk[G]!).setIfInBounds G dk[u]!).toList.map u64v)] mixed zy zy zy zy H f (StL.get (StL.eq (StL.eq (StL.eq (StL.eq (StL.eq (StL.eq (StL.at (StL.eq (StL.eq (StL.eq (StL.at (StL.eq (StL.at (StL.cons (fun _ _ _ _ h => h) (StL.at (StL.cons (fun _ _ _ _ h => h) (StL.nil _)))))))))))))))))) (ObRs.get (ObRs.cons ?_ (ObRs.cons ?_ (ObRs.cons ?_ (ObRs.cons ?_ (ObRs.cons ?_ (ObRs.cons ?_ (ObRs.cons ?_ (ObRs.cons ?_ (ObRs.cons ?_ (ObRs.cons ?_ (ObRs.cons ?_ (ObRs.cons ?_ (ObRs.cons ?_ (ObRs.pass rfl (ObRs.cons ?_ (ObRs.pass rfl (ObRs.nil)))))))))))))))))) (ObWs.get (ObWs.cons ?_ (ObWs.cons ?_ (ObWs.nil)))) ?_)))))
  ·
   intro aA wA cA hNA hRA hckA hOA hbsA hdpA
   have m := (hbsA 0 rfl).trans (zL H rfl I)
   clear hbsA hdpA
   refine zG (zC hNA rfl m) ?_
   exact obR_end rfl rfl (grown_refl _ _)
  ·
   intro aA wA cA hNA hRA hckA hOA hbsA hdpA
   have W := (hbsA 9 rfl).trans (zL H rfl J)
   clear hbsA hdpA
   refine zG (zC hNA rfl W) ?_
   exact obR_end rfl rfl (grown_refl _ _)
  ·
   intro aA wA cA hNA hRA hckA hOA hbsA hdpA
   have m := (hbsA 0 rfl).trans (zL H rfl I)
   clear hbsA hdpA
   refine zG (zC hNA rfl m) ?_
   exact obR_end rfl rfl (grown_refl _ _)
  ·
   intro aA wA cA hNA hRA hckA hOA hbsA hdpA
   have X := (hbsA 10 rfl).trans (zL H rfl L)
   clear hbsA hdpA
   refine zG (zC hNA rfl X) ?_
   exact obR_end rfl rfl (grown_refl _ _)
  ·
   intro aA wA cA hNA hRA hckA hOA hbsA hdpA
   have m := (hbsA 0 rfl).trans (zL H rfl I)
   clear hbsA hdpA
   refine zG (zC hNA rfl m) ?_
   exact obR_end rfl rfl (grown_refl _ _)
  ·
   intro aA wA cA hNA hRA hckA hOA hbsA hdpA
   have X := (hbsA 10 rfl).trans (zL H rfl L)
   clear hbsA hdpA
   refine zG (zC hNA rfl X) ?_
   exact obR_end rfl rfl (grown_refl _ _)
  ·
   intro aA wA cA hNA hRA hckA hOA hbsA hdpA
   have Y : Sl aA 69 v := hdpA 4 _ 69 zy rfl rfl
   have Z : Sl aA 70 (.int .i64 ((G : Nat) : Int)) := hdpA 5 _ 70 zy rfl rfl
   clear hbsA hdpA
   refine op_index_own (i := G) slt62 (zC hNA rfl Y) hOA (zC hNA rfl Z) zx zx ?_
   intro b_ o_ _ hA_
   exact obR_end rfl ⟨b_, o_, rfl, by simpa using hA_⟩ (grown_refl _ _)
  ·
   intro aA wA cA hNA hRA hckA hOA hbsA hdpA
   obtain ⟨ad, ac, aa, ab⟩ := hdpA 6 _ 71 zy rfl rfl
   clear hbsA hdpA
   obtain rfl : cA = 0 := Nat.le_zero.1 (hckA 0 13 rfl zy)
   have hOA : Own wA base 57 1 v n (dk.toList.map u64v) := hOA
   refine zN (v := (Value.int .u64 (dk[G]!.toNat : Int))) one57 (zC hNA rfl aa) (by have := hOA.cellAt ab 0 _ (el_at (i := G) (by first | omega | (simp only [Array.size_setIfInBounds, swp_sz, siftDown_size]; omega))); simpa using this) ?_
   exact obR_end rfl rfl (grown_refl _ _)
  ·
   intro aA wA cA hNA hRA hckA hOA hbsA hdpA
   have m := (hbsA 0 rfl).trans (zL H rfl I)
   clear hbsA hdpA
   refine zG (zC hNA rfl m) ?_
   exact obR_end rfl rfl (grown_refl _ _)
  ·
   intro aA wA cA hNA hRA hckA hOA hbsA hdpA
   have W := (hbsA 9 rfl).trans (zL H rfl J)
   clear hbsA hdpA
   refine zG (zC hNA rfl W) ?_
   exact obR_end rfl rfl (grown_refl _ _)
  ·
   intro aA wA cA hNA hRA hckA hOA hbsA hdpA
   have ae : Sl aA 73 v := hdpA 8 _ 73 zy rfl rfl
   have af : Sl aA 74 (.int .i64 ((u : Nat) : Int)) := hdpA 9 _ 74 zy rfl rfl
   clear hbsA hdpA
   refine op_index_own (i := u) slt62 (zC hNA rfl ae) hOA (zC hNA rfl af) zx zx ?_
   intro b_ o_ _ hA_
   exact obR_end rfl ⟨b_, o_, rfl, by simpa using hA_⟩ (grown_refl _ _)
  ·
   intro aA wA cA hNA hRA hckA hOA hbsA hdpA
   obtain ⟨aj, ai, ah, ag⟩ := hdpA 10 _ 75 zy rfl rfl
   clear hbsA hdpA
   obtain rfl : cA = 0 := Nat.le_zero.1 (hckA 0 13 rfl zy)
   have hOA : Own wA base 57 1 v n (dk.toList.map u64v) := hOA
   refine zN (v := (Value.int .u64 (dk[u]!.toNat : Int))) one57 (zC hNA rfl ah) (by have := hOA.cellAt ag 0 _ (el_at (i := u) (by first | omega | (simp only [Array.size_setIfInBounds, swp_sz, siftDown_size]; omega))); simpa using this) ?_
   exact obR_end rfl rfl (grown_refl _ _)
  ·
   intro aA wA cA hNA hRA hckA hOA hbsA hdpA
   have ak : Sl aA 65 v := hdpA 0 _ 65 zy rfl rfl
   have al : Sl aA 66 (.int .i64 ((u : Nat) : Int)) := hdpA 1 _ 66 zy rfl rfl
   clear hbsA hdpA
   refine op_index_own (i := u) slt62 (zC hNA rfl ak) hOA (zC hNA rfl al) zx zx ?_
   intro b_ o_ _ hA_
   exact obR_end rfl ⟨b_, o_, rfl, by simpa using hA_⟩ (grown_refl _ _)
  ·
   intro aA wA cA hNA hRA hckA hOA hbsA hdpA
   have am : Sl aA 67 v := hdpA 2 _ 67 zy rfl rfl
   have an : Sl aA 68 (.int .i64 ((G : Nat) : Int)) := hdpA 3 _ 68 zy rfl rfl
   clear hbsA hdpA
   refine op_index_own (i := G) slt62 (zC hNA rfl am) hOA (zC hNA rfl an) zx zx ?_
   intro b_ o_ _ hA_
   exact obR_end rfl ⟨b_, o_, rfl, by simpa using hA_⟩ (grown_refl _ _)
  ·
   intro o_ ho_; obtain rfl := zE ho_; intro aA wA hNA hRA hbsA hdpA hOA
   obtain ⟨aq, ar, ao, ap⟩ := hdpA 12 _ 77 zy rfl rfl
   have au : Sl aA 72 (.int .u64 (dk[G]!.toNat : Int)) := hdpA 7 _ 72 zy rfl rfl
   clear hbsA hdpA
   have hOA : Own wA base 57 1 v n (dk.toList.map u64v) := hOA
   refine op_store_own (vs := [(.int .u64 (dk[G]!.toNat : Int))]) size57 (zC hNA rfl ao) (zC hNA rfl au) rfl rfl rfl hOA ap (by have := hOA.1; simp at this ⊢; omega) ?_
   intro w_ hO_ E_
   exact obW_end rfl (hO_.cast rfl (set_arr (by first | omega | (simp only [Array.size_setIfInBounds, swp_sz, siftDown_size]; omega)))) E_
  ·
   intro o_ ho_; obtain rfl := zE ho_; intro aA wA hNA hRA hbsA hdpA hOA
   obtain ⟨ax, ay, aw, av⟩ := hdpA 14 _ 78 zy rfl rfl
   have az : Sl aA 76 (.int .u64 (dk[u]!.toNat : Int)) := hdpA 11 _ 76 zy rfl rfl
   clear hbsA hdpA
   have hOA : Own wA base 57 1 v n ((dk.setIfInBounds u dk[G]!).toList.map u64v) := hOA
   refine op_store_own (vs := [(.int .u64 (dk[u]!.toNat : Int))]) size57 (zC hNA rfl aw) (zC hNA rfl az) rfl rfl rfl hOA av (by have := hOA.1; simp at this ⊢; omega) ?_
   intro w_ hO_ E_
   exact obW_end rfl (hO_.cast rfl (set_arr (by first | omega | (simp only [Array.size_setIfInBounds, swp_sz, siftDown_size]; omega)))) E_
  intro aI aH aB aE aC aG aD aF
  have aE := aE.trans M
  have M := (aC 0 rfl).trans (zL H rfl I)
  have I := (aC 1 rfl).trans (zL H rfl P)
  have P := (aC 8 rfl).trans (zL H rfl Q)
  have Q := (aC 9 rfl).trans (zL H rfl J)
  have J := (aC 10 rfl).trans (zL H rfl L)
  clear aC aG
  have aD : Own aH base 57 1 v n (((dk.setIfInBounds u dk[G]!).setIfInBounds G dk[u]!).toList.map u64v) := aD
  have := aF.size
  have hb := grow_stepX hb aF rfl
  refine y _ _ (zF fun _ y => zH ?_)
  refine zG (zC aB rfl Q) (op_add (zA aB rfl) rfl (add64 zx) (zD (zA aB rfl) (zB (y _ _ (zH (zG (zC aB rfl J) (op_sub (zA aB rfl) rfl (sub64 zx) (zD (zA aB rfl) (zB (blk_normal ?_))))))))))
  -- round 31T 43F 48F 64F
  have V : scanDown (fun x => ltT dk[a]! x) dk u jj = G := K.trans (scanDown_stop (.inl zx))
  have hne : u ≠ G := by first | omega | (intro hh; subst hh; rw [U] at F; simp at F)
  exact zg _ aB aE ⟨(u + 1), (G - 1), _, rfl, (zL aB rfl M), (zL aB rfl I), (zL aB rfl P), (zU aB rfl).trans (congrArg (Value.int .i64) zx), (zU aB rfl).trans (congrArg (Value.int .i64) zx), (by first | assumption | (simp only [Array.size_setIfInBounds, swp_sz, siftDown_size]; assumption)), zx, (hs.trans (pe_go E V zx)), hb, zx, aD⟩ zx
 refine st_step rfl (fun _ B => op_cmp (b := false) (zA g rfl) (zA g rfl) (b_leq (decide_eq_false D)) B) (st_step rfl (fun _ B => zG (zA g rfl) B) (st_g_false (j := 3) (dj := 32) (b := true) rfl rfl rfl (zA g rfl) rfl rfl (st_g_false (j := 3) (dj := 32) (b := true) rfl rfl rfl (zA g rfl) rfl rfl (st_g_false (j := 3) (dj := 32) (b := true) rfl rfl rfl (zA g rfl) rfl rfl (st_g_false (j := 3) (dj := 32) (b := true) rfl rfl rfl (zA g rfl) rfl rfl (st_g_false (j := 3) (dj := 32) (b := true) rfl rfl rfl (zA g rfl) rfl rfl ?_))))))
 refine st_g_false (j := 3) (dj := 32) (b := true) rfl rfl rfl (zA g rfl) rfl rfl (st_g_false (j := 3) (dj := 32) (b := true) rfl rfl rfl (zA g rfl) rfl rfl (st_g_false (j := 3) (dj := 32) (b := true) rfl rfl rfl (zA g rfl) rfl rfl (st_g_false (j := 3) (dj := 32) (b := true) rfl rfl rfl (zA g rfl) rfl rfl (st_g_false (j := 3) (dj := 32) (b := true) rfl rfl rfl (zA g rfl) rfl rfl (st_step rfl (fun _ B => zd (zA g rfl) rfl B) (st_nil (A _ _ (wp_cond_false (zA g rfl) (wp_exit (then_exit (then_exit (blk_hit (y _ _ (zF fun _ y => wp_block ?_))))))))))))))
 have E : scanUp (fun x => !ltT dk[a]! x) dk jj ii = u := t.trans (scanUp_stop (.inl zx))
 refine loop_m (fun mz_ az_ w' => ∃ (G : Nat), mz_ = (G + 1) ∧ (Sl az_ 0 v) ∧ (Sl az_ 1 (.int .i64 ((a : Nat) : Int))) ∧ (Sl az_ 8 (.int .i64 0)) ∧ (Sl az_ 9 (.int .i64 ((u : Nat) : Int))) ∧ (Sl az_ 10 (.int .i64 ((G : Nat) : Int))) ∧ (G ≤ jj ∧ u ≤ G + 1) ∧ (scanDown (fun x => ltT dk[a]! x) dk u jj = scanDown (fun x => ltT dk[a]! x) dk u G) ∧ (w.grownBy w' v.ownBlock) ∧ (C.heap.size ≤ w'.heap.size) ∧ (Own w' base 57 1 v n (dk.toList.map u64v))) _ g s ⟨jj, rfl, (zL g rfl k), (zL g rfl p), (zL g rfl q), (zL g rfl l), (zL g rfl o).trans (congrArg (Value.int .i64) zx), zx, rfl, hb, (Nat.le_refl _), f⟩ ?_
 rintro _ t C g p ⟨G, rfl, k, q, s, l, o, R, K, hb, D, f⟩
 have := hb.size
 refine zF fun _ z => zF fun _ A => reg_still mixed zy ?_
 intro C t
 have := t.size
 have f := f.keep0 t
 have hb := grow_step0 hb t
 refine st_step rfl (fun _ B => zG (zC g rfl l) B) (st_step rfl (fun _ B => zG (zC g rfl o) B) ?_)
 by_cases S : ((u : Nat) : Int) ≤ ((G : Nat) : Int)
 ·
  refine st_step rfl (fun _ B => op_cmp (b := true) (zA g rfl) (zA g rfl) (b_leq (decide_eq_true S)) B) (st_step rfl (fun _ B => zG (zA g rfl) B) (st_g_true (j := 3) (dj := 49) (b := true) rfl rfl rfl (zA g rfl) (st_step rfl (fun _ B => zG (zC g rfl k) B) (st_g_true (j := 3) (dj := 49) (b := true) rfl rfl rfl (zA g rfl) (st_step rfl (fun _ B => zG (zC g rfl q) B) (st_g_true (j := 3) (dj := 49) (b := true) rfl rfl rfl (zA g rfl) (st_index_rd slt62 (zA g rfl) f.rdw (zA g rfl) zx zx ?_)))))))
  intro I D H C t
  refine st_g_true (j := 3) (dj := 49) (b := true) rfl rfl rfl (zA g rfl) (st_step rfl (fun _ B => zN (v := (Value.int .u64 (dk[a]!.toNat : Int))) one57 (zA g rfl) (by have := t 0 (.int .u64 (dk[a]!.toNat : Int)) zz (el_arr (i := a) zx (by first | omega | (simp only [Array.size_setIfInBounds, swp_sz, siftDown_size]; omega))); simpa using this) B) (st_g_true (j := 3) (dj := 49) (b := true) rfl rfl rfl (zA g rfl) (st_step rfl (fun _ B => zG (zC g rfl k) B) (st_g_true (j := 3) (dj := 49) (b := true) rfl rfl rfl (zA g rfl) (st_step rfl (fun _ B => zG (zC g rfl o) B) (st_g_true (j := 3) (dj := 49) (b := true) rfl rfl rfl (zA g rfl) (st_index_rd slt62 (zA g rfl) f.rdw (zA g rfl) zx zx ?_)))))))
  intro C D H I t
  refine st_g_true (j := 3) (dj := 49) (b := true) rfl rfl rfl (zA g rfl) (st_step rfl (fun _ B => zN (v := (Value.int .u64 (dk[G]!.toNat : Int))) one57 (zA g rfl) (by have := t 0 (.int .u64 (dk[G]!.toNat : Int)) zz (el_arr (i := G) zx (by first | omega | (simp only [Array.size_setIfInBounds, swp_sz, siftDown_size]; omega))); simpa using this) B) (st_g_true (j := 3) (dj := 49) (b := true) rfl rfl rfl (zA g rfl) (st_fn (vs := [(.int .u64 (dk[a]!.toNat : Int)), (.int .u64 (dk[G]!.toNat : Int))]) ok73 (⟨(zA g rfl), ⟨(zA g rfl), trivial⟩⟩) (Less16_ret dk[a]! dk[G]! _) (st_step rfl (fun _ B => zc (zA g rfl) (zA g rfl) B) (st_nil (A _ _ (wp_cond_split (zA g rfl) (fun U => ?_) (fun U => ?_))))))))
  ·
   refine wp_skip (z _ _ (wp_block (zH (zG (zC g rfl o) (op_sub (zA g rfl) rfl (sub64 zx) (zD (zA g rfl) (zB (blk_normal ?_))))))))
   -- round 31F 48T 59T
   exact zg _ g p ⟨(G - 1), rfl, (zL g rfl k), (zL g rfl q), (zL g rfl s), (zL g rfl l), (zU g rfl).trans (congrArg (Value.int .i64) zx), zx, (K.trans (scanDown_go zx zx U)), hb, zx, f⟩ zx
  refine wp_exit (then_exit (then_exit (blk_hit (y _ _ (zF fun _ y => zF fun _ z => zH (zG (zC g rfl l) (zG (zC g rfl o) (op_gtr (zA g rfl) (zA g rfl) (fun T => ?_) (fun T => ?_)))))))))
  ·
   refine zB (z _ _ (wp_cond_true (zA g rfl) (wp_exit (then_exit (blk_miss zz (then_exit (blk_hit (c _ _ (zF fun _ c => zH (zG (zC g rfl l) (zD (zA g rfl) (zB (c _ _ (wp_ret (ret1 rfl p (zA g rfl) ⟨_, rfl, ?_⟩)))))))))))))))
   have V : scanDown (fun x => ltT dk[a]! x) dk u jj = G := K.trans (scanDown_stop (.inr U))
   have hq : partitionEqual ltT d a b pv = (u, dk) := hs.trans (pe_stop E V zx)
   exact ⟨hb, by first | (rw [hq]; done) | (rw [hq]; rfl), f.cast rfl (by rw [hq])⟩
  refine zB (z _ _ (wp_cond_false (zA g rfl) (wp_skip (y _ _ (zF fun _ y => reg_mid (e := 57) (sz := 1) (base := base) (n := n) (v := v) (Φ := phiL [(fun uz _ => uz = v), (fun uz _ => uz = (.int .i64 ((u : Nat) : Int))), (fun uz _ => uz = v), (fun uz _ => uz = (.int .i64 ((G : Nat) : Int))), (fun uz _ => uz = v), (fun uz _ => uz = (.int .i64 ((G : Nat) : Int))), (fun uz _ => ∃ bz oz, uz = ptr bz oz ∧ AtV v G bz oz), (fun uz _ => uz = (.int .u64 (dk[G]!.toNat : Int))), (fun uz _ => uz = v), (fun uz _ => uz = (.int .i64 ((u : Nat) : Int))), (fun uz _ => ∃ bz oz, uz = ptr bz oz ∧ AtV v u bz oz), (fun uz _ => uz = (.int .u64 (dk[u]!.toNat : Int))), (fun uz _ => ∃ bz oz, uz = ptr bz oz ∧ AtV v u bz oz), (fun _ _ => True), (fun uz _ => ∃ bz oz, uz = ptr bz oz ∧ AtV v G bz oz), (fun _ _ => True)]) [13, 15] [(dk.toList.map u64v), ((dk.setIfInBounds u dk[G]!).toList.map u64v), (((dk.setIfInBounds u dk[G]!).setIfInBounds G dk[u]!).toList.map u64v)] mixed zy zy zy zy g f (StL.get (StL.eq (StL.eq (StL.eq (StL.eq (StL.eq (StL.eq (StL.at (StL.eq (StL.eq (StL.eq (StL.at (StL.eq (StL.at (StL.cons (fun _ _ _ _ h => h) (StL.at (StL.cons (fun _ _ _ _ h => h) (StL.nil _)))))))))))))))))) (ObRs.get (ObRs.cons ?_ (ObRs.cons ?_ (ObRs.cons ?_ (ObRs.cons ?_ (ObRs.cons ?_ (ObRs.cons ?_ (ObRs.cons ?_ (ObRs.cons ?_ (ObRs.cons ?_ (ObRs.cons ?_ (ObRs.cons ?_ (ObRs.cons ?_ (ObRs.cons ?_ (ObRs.pass rfl (ObRs.cons ?_ (ObRs.pass rfl (ObRs.nil)))))))))))))))))) (ObWs.get (ObWs.cons ?_ (ObWs.cons ?_ (ObWs.nil)))) ?_)))))
  ·
   intro aA wA cA hNA hRA hckA hOA hbsA hdpA
   have m := (hbsA 0 rfl).trans (zL g rfl k)
   clear hbsA hdpA
   refine zG (zC hNA rfl m) ?_
   exact obR_end rfl rfl (grown_refl _ _)
  ·
   intro aA wA cA hNA hRA hckA hOA hbsA hdpA
   have W := (hbsA 9 rfl).trans (zL g rfl l)
   clear hbsA hdpA
   refine zG (zC hNA rfl W) ?_
   exact obR_end rfl rfl (grown_refl _ _)
  ·
   intro aA wA cA hNA hRA hckA hOA hbsA hdpA
   have m := (hbsA 0 rfl).trans (zL g rfl k)
   clear hbsA hdpA
   refine zG (zC hNA rfl m) ?_
   exact obR_end rfl rfl (grown_refl _ _)
  ·
   intro aA wA cA hNA hRA hckA hOA hbsA hdpA
   have X := (hbsA 10 rfl).trans (zL g rfl o)
   clear hbsA hdpA
   refine zG (zC hNA rfl X) ?_
   exact obR_end rfl rfl (grown_refl _ _)
  ·
   intro aA wA cA hNA hRA hckA hOA hbsA hdpA
   have m := (hbsA 0 rfl).trans (zL g rfl k)
   clear hbsA hdpA
   refine zG (zC hNA rfl m) ?_
   exact obR_end rfl rfl (grown_refl _ _)
  ·
   intro aA wA cA hNA hRA hckA hOA hbsA hdpA
   have X := (hbsA 10 rfl).trans (zL g rfl o)
   clear hbsA hdpA
   refine zG (zC hNA rfl X) ?_
   exact obR_end rfl rfl (grown_refl _ _)
  ·
   intro aA wA cA hNA hRA hckA hOA hbsA hdpA
   have Y : Sl aA 69 v := hdpA 4 _ 69 zy rfl rfl
   have Z : Sl aA 70 (.int .i64 ((G : Nat) : Int)) := hdpA 5 _ 70 zy rfl rfl
   clear hbsA hdpA
   refine op_index_own (i := G) slt62 (zC hNA rfl Y) hOA (zC hNA rfl Z) zx zx ?_
   intro b_ o_ _ hA_
   exact obR_end rfl ⟨b_, o_, rfl, by simpa using hA_⟩ (grown_refl _ _)
  ·
   intro aA wA cA hNA hRA hckA hOA hbsA hdpA
   obtain ⟨ad, ac, aa, ab⟩ := hdpA 6 _ 71 zy rfl rfl
   clear hbsA hdpA
   obtain rfl : cA = 0 := Nat.le_zero.1 (hckA 0 13 rfl zy)
   have hOA : Own wA base 57 1 v n (dk.toList.map u64v) := hOA
   refine zN (v := (Value.int .u64 (dk[G]!.toNat : Int))) one57 (zC hNA rfl aa) (by have := hOA.cellAt ab 0 _ (el_at (i := G) (by first | omega | (simp only [Array.size_setIfInBounds, swp_sz, siftDown_size]; omega))); simpa using this) ?_
   exact obR_end rfl rfl (grown_refl _ _)
  ·
   intro aA wA cA hNA hRA hckA hOA hbsA hdpA
   have m := (hbsA 0 rfl).trans (zL g rfl k)
   clear hbsA hdpA
   refine zG (zC hNA rfl m) ?_
   exact obR_end rfl rfl (grown_refl _ _)
  ·
   intro aA wA cA hNA hRA hckA hOA hbsA hdpA
   have W := (hbsA 9 rfl).trans (zL g rfl l)
   clear hbsA hdpA
   refine zG (zC hNA rfl W) ?_
   exact obR_end rfl rfl (grown_refl _ _)
  ·
   intro aA wA cA hNA hRA hckA hOA hbsA hdpA
   have ae : Sl aA 73 v := hdpA 8 _ 73 zy rfl rfl
   have af : Sl aA 74 (.int .i64 ((u : Nat) : Int)) := hdpA 9 _ 74 zy rfl rfl
   clear hbsA hdpA
   refine op_index_own (i := u) slt62 (zC hNA rfl ae) hOA (zC hNA rfl af) zx zx ?_
   intro b_ o_ _ hA_
   exact obR_end rfl ⟨b_, o_, rfl, by simpa using hA_⟩ (grown_refl _ _)
  ·
   intro aA wA cA hNA hRA hckA hOA hbsA hdpA
   obtain ⟨aj, ai, ah, ag⟩ := hdpA 10 _ 75 zy rfl rfl
   clear hbsA hdpA
   obtain rfl : cA = 0 := Nat.le_zero.1 (hckA 0 13 rfl zy)
   have hOA : Own wA base 57 1 v n (dk.toList.map u64v) := hOA
   refine zN (v := (Value.int .u64 (dk[u]!.toNat : Int))) one57 (zC hNA rfl ah) (by have := hOA.cellAt ag 0 _ (el_at (i := u) (by first | omega | (simp only [Array.size_setIfInBounds, swp_sz, siftDown_size]; omega))); simpa using this) ?_
   exact obR_end rfl rfl (grown_refl _ _)
  ·
   intro aA wA cA hNA hRA hckA hOA hbsA hdpA
   have ak : Sl aA 65 v := hdpA 0 _ 65 zy rfl rfl
   have al : Sl aA 66 (.int .i64 ((u : Nat) : Int)) := hdpA 1 _ 66 zy rfl rfl
   clear hbsA hdpA
   refine op_index_own (i := u) slt62 (zC hNA rfl ak) hOA (zC hNA rfl al) zx zx ?_
   intro b_ o_ _ hA_
   exact obR_end rfl ⟨b_, o_, rfl, by simpa using hA_⟩ (grown_refl _ _)
  ·
   intro aA wA cA hNA hRA hckA hOA hbsA hdpA
   have am : Sl aA 67 v := hdpA 2 _ 67 zy rfl rfl
   have an : Sl aA 68 (.int .i64 ((G : Nat) : Int)) := hdpA 3 _ 68 zy rfl rfl
   clear hbsA hdpA
   refine op_index_own (i := G) slt62 (zC hNA rfl am) hOA (zC hNA rfl an) zx zx ?_
   intro b_ o_ _ hA_
   exact obR_end rfl ⟨b_, o_, rfl, by simpa using hA_⟩ (grown_refl _ _)
  ·
   intro o_ ho_; obtain rfl := zE ho_; intro aA wA hNA hRA hbsA hdpA hOA
   obtain ⟨aq, ar, ao, ap⟩ := hdpA 12 _ 77 zy rfl rfl
   have au : Sl aA 72 (.int .u64 (dk[G]!.toNat : Int)) := hdpA 7 _ 72 zy rfl rfl
   clear hbsA hdpA
   have hOA : Own wA base 57 1 v n (dk.toList.map u64v) := hOA
   refine op_store_own (vs := [(.int .u64 (dk[G]!.toNat : Int))]) size57 (zC hNA rfl ao) (zC hNA rfl au) rfl rfl rfl hOA ap (by have := hOA.1; simp at this ⊢; omega) ?_
   intro w_ hO_ E_
   exact obW_end rfl (hO_.cast rfl (set_arr (by first | omega | (simp only [Array.size_setIfInBounds, swp_sz, siftDown_size]; omega)))) E_
  ·
   intro o_ ho_; obtain rfl := zE ho_; intro aA wA hNA hRA hbsA hdpA hOA
   obtain ⟨ax, ay, aw, av⟩ := hdpA 14 _ 78 zy rfl rfl
   have az : Sl aA 76 (.int .u64 (dk[u]!.toNat : Int)) := hdpA 11 _ 76 zy rfl rfl
   clear hbsA hdpA
   have hOA : Own wA base 57 1 v n ((dk.setIfInBounds u dk[G]!).toList.map u64v) := hOA
   refine op_store_own (vs := [(.int .u64 (dk[u]!.toNat : Int))]) size57 (zC hNA rfl aw) (zC hNA rfl az) rfl rfl rfl hOA av (by have := hOA.1; simp at this ⊢; omega) ?_
   intro w_ hO_ E_
   exact obW_end rfl (hO_.cast rfl (set_arr (by first | omega | (simp only [Array.size_setIfInBounds, swp_sz, siftDown_size]; omega)))) E_
  intro M L t H C J D I
  have H := H.trans p
  have M := (C 0 rfl).trans (zL g rfl k)
  have P := (C 1 rfl).trans (zL g rfl q)
  have Q := (C 8 rfl).trans (zL g rfl s)
  have R := (C 9 rfl).trans (zL g rfl l)
  have aB := (C 10 rfl).trans (zL g rfl o)
  clear C J
  have D : Own L base 57 1 v n (((dk.setIfInBounds u dk[G]!).setIfInBounds G dk[u]!).toList.map u64v) := D
  have := I.size
  have hb := grow_stepX hb I rfl
  refine y _ _ (zF fun _ y => zH ?_)
  refine zG (zC t rfl R) (op_add (zA t rfl) rfl (add64 zx) (zD (zA t rfl) (zB (y _ _ (zH (zG (zC t rfl aB) (op_sub (zA t rfl) rfl (sub64 zx) (zD (zA t rfl) (zB (blk_normal ?_))))))))))
  -- round 31F 48T 59F 64F
  have V : scanDown (fun x => ltT dk[a]! x) dk u jj = G := K.trans (scanDown_stop (.inr U))
  have hne : u ≠ G := by first | omega | (intro hh; subst hh; rw [U] at F; simp at F)
  exact zg _ t H ⟨(u + 1), (G - 1), _, rfl, (zL t rfl M), (zL t rfl P), (zL t rfl Q), (zU t rfl).trans (congrArg (Value.int .i64) zx), (zU t rfl).trans (congrArg (Value.int .i64) zx), (by first | assumption | (simp only [Array.size_setIfInBounds, swp_sz, siftDown_size]; assumption)), zx, (hs.trans (pe_go E V zx)), hb, zx, D⟩ zx
 refine st_step rfl (fun _ B => op_cmp (b := false) (zA g rfl) (zA g rfl) (b_leq (decide_eq_false S)) B) (st_step rfl (fun _ B => zG (zA g rfl) B) (st_g_false (j := 3) (dj := 49) (b := true) rfl rfl rfl (zA g rfl) rfl rfl (st_g_false (j := 3) (dj := 49) (b := true) rfl rfl rfl (zA g rfl) rfl rfl (st_g_false (j := 3) (dj := 49) (b := true) rfl rfl rfl (zA g rfl) rfl rfl (st_g_false (j := 3) (dj := 49) (b := true) rfl rfl rfl (zA g rfl) rfl rfl (st_g_false (j := 3) (dj := 49) (b := true) rfl rfl rfl (zA g rfl) rfl rfl (st_g_false (j := 3) (dj := 49) (b := true) rfl rfl rfl (zA g rfl) rfl rfl (st_g_false (j := 3) (dj := 49) (b := true) rfl rfl rfl (zA g rfl) rfl rfl (st_g_false (j := 3) (dj := 49) (b := true) rfl rfl rfl (zA g rfl) rfl rfl ?_)))))))))
 refine st_g_false (j := 3) (dj := 49) (b := true) rfl rfl rfl (zA g rfl) rfl rfl (st_step rfl (fun _ B => zd (zA g rfl) rfl B) (st_nil (A _ _ (wp_cond_false (zA g rfl) (wp_exit (then_exit (then_exit (blk_hit (y _ _ (zF fun _ y => zF fun _ z => zH (zG (zC g rfl l) (zG (zC g rfl o) (op_gtr (zA g rfl) (zA g rfl) (fun T => ?_) (fun T => ?_))))))))))))))
 ·
  refine zB (z _ _ (wp_cond_true (zA g rfl) (wp_exit (then_exit (blk_miss zz (then_exit (blk_hit (c _ _ (zF fun _ c => zH (zG (zC g rfl l) (zD (zA g rfl) (zB (c _ _ (wp_ret (ret1 rfl p (zA g rfl) ⟨_, rfl, ?_⟩)))))))))))))))
  have V : scanDown (fun x => ltT dk[a]! x) dk u jj = G := K.trans (scanDown_stop (.inl zx))
  have hq : partitionEqual ltT d a b pv = (u, dk) := hs.trans (pe_stop E V zx)
  exact ⟨hb, by first | (rw [hq]; done) | (rw [hq]; rfl), f.cast rfl (by rw [hq])⟩
 refine zB (z _ _ (wp_cond_false (zA g rfl) (wp_skip (y _ _ (zF fun _ y => reg_mid (e := 57) (sz := 1) (base := base) (n := n) (v := v) (Φ := phiL [(fun uz _ => uz = v), (fun uz _ => uz = (.int .i64 ((u : Nat) : Int))), (fun uz _ => uz = v), (fun uz _ => uz = (.int .i64 ((G : Nat) : Int))), (fun uz _ => uz = v), (fun uz _ => uz = (.int .i64 ((G : Nat) : Int))), (fun uz _ => ∃ bz oz, uz = ptr bz oz ∧ AtV v G bz oz), (fun uz _ => uz = (.int .u64 (dk[G]!.toNat : Int))), (fun uz _ => uz = v), (fun uz _ => uz = (.int .i64 ((u : Nat) : Int))), (fun uz _ => ∃ bz oz, uz = ptr bz oz ∧ AtV v u bz oz), (fun uz _ => uz = (.int .u64 (dk[u]!.toNat : Int))), (fun uz _ => ∃ bz oz, uz = ptr bz oz ∧ AtV v u bz oz), (fun _ _ => True), (fun uz _ => ∃ bz oz, uz = ptr bz oz ∧ AtV v G bz oz), (fun _ _ => True)]) [13, 15] [(dk.toList.map u64v), ((dk.setIfInBounds u dk[G]!).toList.map u64v), (((dk.setIfInBounds u dk[G]!).setIfInBounds G dk[u]!).toList.map u64v)] mixed zy zy zy zy g f (StL.get (StL.eq (StL.eq (StL.eq (StL.eq (StL.eq (StL.eq (StL.at (StL.eq (StL.eq (StL.eq (StL.at (StL.eq (StL.at (StL.cons (fun _ _ _ _ h => h) (StL.at (StL.cons (fun _ _ _ _ h => h) (StL.nil _)))))))))))))))))) (ObRs.get (ObRs.cons ?_ (ObRs.cons ?_ (ObRs.cons ?_ (ObRs.cons ?_ (ObRs.cons ?_ (ObRs.cons ?_ (ObRs.cons ?_ (ObRs.cons ?_ (ObRs.cons ?_ (ObRs.cons ?_ (ObRs.cons ?_ (ObRs.cons ?_ (ObRs.cons ?_ (ObRs.pass rfl (ObRs.cons ?_ (ObRs.pass rfl (ObRs.nil)))))))))))))))))) (ObWs.get (ObWs.cons ?_ (ObWs.cons ?_ (ObWs.nil)))) ?_)))))
 ·
  intro aA wA cA hNA hRA hckA hOA hbsA hdpA
  have m := (hbsA 0 rfl).trans (zL g rfl k)
  clear hbsA hdpA
  refine zG (zC hNA rfl m) ?_
  exact obR_end rfl rfl (grown_refl _ _)
 ·
  intro aA wA cA hNA hRA hckA hOA hbsA hdpA
  have W := (hbsA 9 rfl).trans (zL g rfl l)
  clear hbsA hdpA
  refine zG (zC hNA rfl W) ?_
  exact obR_end rfl rfl (grown_refl _ _)
 ·
  intro aA wA cA hNA hRA hckA hOA hbsA hdpA
  have m := (hbsA 0 rfl).trans (zL g rfl k)
  clear hbsA hdpA
  refine zG (zC hNA rfl m) ?_
  exact obR_end rfl rfl (grown_refl _ _)
 ·
  intro aA wA cA hNA hRA hckA hOA hbsA hdpA
  have X := (hbsA 10 rfl).trans (zL g rfl o)
  clear hbsA hdpA
  refine zG (zC hNA rfl X) ?_
  exact obR_end rfl rfl (grown_refl _ _)
 ·
  intro aA wA cA hNA hRA hckA hOA hbsA hdpA
  have m := (hbsA 0 rfl).trans (zL g rfl k)
  clear hbsA hdpA
  refine zG (zC hNA rfl m) ?_
  exact obR_end rfl rfl (grown_refl _ _)
 ·
  intro aA wA cA hNA hRA hckA hOA hbsA hdpA
  have X := (hbsA 10 rfl).trans (zL g rfl o)
  clear hbsA hdpA
  refine zG (zC hNA rfl X) ?_
  exact obR_end rfl rfl (grown_refl _ _)
 ·
  intro aA wA cA hNA hRA hckA hOA hbsA hdpA
  have Y : Sl aA 69 v := hdpA 4 _ 69 zy rfl rfl
  have Z : Sl aA 70 (.int .i64 ((G : Nat) : Int)) := hdpA 5 _ 70 zy rfl rfl
  clear hbsA hdpA
  refine op_index_own (i := G) slt62 (zC hNA rfl Y) hOA (zC hNA rfl Z) zx zx ?_
  intro b_ o_ _ hA_
  exact obR_end rfl ⟨b_, o_, rfl, by simpa using hA_⟩ (grown_refl _ _)
 ·
  intro aA wA cA hNA hRA hckA hOA hbsA hdpA
  obtain ⟨ad, ac, aa, ab⟩ := hdpA 6 _ 71 zy rfl rfl
  clear hbsA hdpA
  obtain rfl : cA = 0 := Nat.le_zero.1 (hckA 0 13 rfl zy)
  have hOA : Own wA base 57 1 v n (dk.toList.map u64v) := hOA
  refine zN (v := (Value.int .u64 (dk[G]!.toNat : Int))) one57 (zC hNA rfl aa) (by have := hOA.cellAt ab 0 _ (el_at (i := G) (by first | omega | (simp only [Array.size_setIfInBounds, swp_sz, siftDown_size]; omega))); simpa using this) ?_
  exact obR_end rfl rfl (grown_refl _ _)
 ·
  intro aA wA cA hNA hRA hckA hOA hbsA hdpA
  have m := (hbsA 0 rfl).trans (zL g rfl k)
  clear hbsA hdpA
  refine zG (zC hNA rfl m) ?_
  exact obR_end rfl rfl (grown_refl _ _)
 ·
  intro aA wA cA hNA hRA hckA hOA hbsA hdpA
  have W := (hbsA 9 rfl).trans (zL g rfl l)
  clear hbsA hdpA
  refine zG (zC hNA rfl W) ?_
  exact obR_end rfl rfl (grown_refl _ _)
 ·
  intro aA wA cA hNA hRA hckA hOA hbsA hdpA
  have ae : Sl aA 73 v := hdpA 8 _ 73 zy rfl rfl
  have af : Sl aA 74 (.int .i64 ((u : Nat) : Int)) := hdpA 9 _ 74 zy rfl rfl
  clear hbsA hdpA
  refine op_index_own (i := u) slt62 (zC hNA rfl ae) hOA (zC hNA rfl af) zx zx ?_
  intro b_ o_ _ hA_
  exact obR_end rfl ⟨b_, o_, rfl, by simpa using hA_⟩ (grown_refl _ _)
 ·
  intro aA wA cA hNA hRA hckA hOA hbsA hdpA
  obtain ⟨aj, ai, ah, ag⟩ := hdpA 10 _ 75 zy rfl rfl
  clear hbsA hdpA
  obtain rfl : cA = 0 := Nat.le_zero.1 (hckA 0 13 rfl zy)
  have hOA : Own wA base 57 1 v n (dk.toList.map u64v) := hOA
  refine zN (v := (Value.int .u64 (dk[u]!.toNat : Int))) one57 (zC hNA rfl ah) (by have := hOA.cellAt ag 0 _ (el_at (i := u) (by first | omega | (simp only [Array.size_setIfInBounds, swp_sz, siftDown_size]; omega))); simpa using this) ?_
  exact obR_end rfl rfl (grown_refl _ _)
 ·
  intro aA wA cA hNA hRA hckA hOA hbsA hdpA
  have ak : Sl aA 65 v := hdpA 0 _ 65 zy rfl rfl
  have al : Sl aA 66 (.int .i64 ((u : Nat) : Int)) := hdpA 1 _ 66 zy rfl rfl
  clear hbsA hdpA
  refine op_index_own (i := u) slt62 (zC hNA rfl ak) hOA (zC hNA rfl al) zx zx ?_
  intro b_ o_ _ hA_
  exact obR_end rfl ⟨b_, o_, rfl, by simpa using hA_⟩ (grown_refl _ _)
 ·
  intro aA wA cA hNA hRA hckA hOA hbsA hdpA
  have am : Sl aA 67 v := hdpA 2 _ 67 zy rfl rfl
  have an : Sl aA 68 (.int .i64 ((G : Nat) : Int)) := hdpA 3 _ 68 zy rfl rfl
  clear hbsA hdpA
  refine op_index_own (i := G) slt62 (zC hNA rfl am) hOA (zC hNA rfl an) zx zx ?_
  intro b_ o_ _ hA_
  exact obR_end rfl ⟨b_, o_, rfl, by simpa using hA_⟩ (grown_refl _ _)
 ·
  intro o_ ho_; obtain rfl := zE ho_; intro aA wA hNA hRA hbsA hdpA hOA
  obtain ⟨aq, ar, ao, ap⟩ := hdpA 12 _ 77 zy rfl rfl
  have au : Sl aA 72 (.int .u64 (dk[G]!.toNat : Int)) := hdpA 7 _ 72 zy rfl rfl
  clear hbsA hdpA
  have hOA : Own wA base 57 1 v n (dk.toList.map u64v) := hOA
  refine op_store_own (vs := [(.int .u64 (dk[G]!.toNat : Int))]) size57 (zC hNA rfl ao) (zC hNA rfl au) rfl rfl rfl hOA ap (by have := hOA.1; simp at this ⊢; omega) ?_
  intro w_ hO_ E_
  exact obW_end rfl (hO_.cast rfl (set_arr (by first | omega | (simp only [Array.size_setIfInBounds, swp_sz, siftDown_size]; omega)))) E_
 ·
  intro o_ ho_; obtain rfl := zE ho_; intro aA wA hNA hRA hbsA hdpA hOA
  obtain ⟨ax, ay, aw, av⟩ := hdpA 14 _ 78 zy rfl rfl
  have az : Sl aA 76 (.int .u64 (dk[u]!.toNat : Int)) := hdpA 11 _ 76 zy rfl rfl
  clear hbsA hdpA
  have hOA : Own wA base 57 1 v n ((dk.setIfInBounds u dk[G]!).toList.map u64v) := hOA
  refine op_store_own (vs := [(.int .u64 (dk[u]!.toNat : Int))]) size57 (zC hNA rfl aw) (zC hNA rfl az) rfl rfl rfl hOA av (by have := hOA.1; simp at this ⊢; omega) ?_
  intro w_ hO_ E_
  exact obW_end rfl (hO_.cast rfl (set_arr (by first | omega | (simp only [Array.size_setIfInBounds, swp_sz, siftDown_size]; omega)))) E_
 intro C B c m f A t z
 have m := m.trans p
 have p := (f 0 rfl).trans (zL g rfl k)
 have k := (f 1 rfl).trans (zL g rfl q)
 have q := (f 8 rfl).trans (zL g rfl s)
 have s := (f 9 rfl).trans (zL g rfl l)
 have l := (f 10 rfl).trans (zL g rfl o)
 clear f A
 have t : Own B base 57 1 v n (((dk.setIfInBounds u dk[G]!).setIfInBounds G dk[u]!).toList.map u64v) := t
 have := z.size
 have hb := grow_stepX hb z rfl
 refine y _ _ (zF fun _ y => zH ?_)
 refine zG (zC c rfl s) (op_add (zA c rfl) rfl (add64 zx) (zD (zA c rfl) (zB (y _ _ (zH (zG (zC c rfl l) (op_sub (zA c rfl) rfl (sub64 zx) (zD (zA c rfl) (zB (blk_normal ?_))))))))))
 -- round 31F 48F 64F
 have V : scanDown (fun x => ltT dk[a]! x) dk u jj = G := K.trans (scanDown_stop (.inl zx))
 have hne : u ≠ G := by first | omega | (intro hh; subst hh; rw [U] at F; simp at F)
 exact zg _ c m ⟨(u + 1), (G - 1), _, rfl, (zL c rfl p), (zL c rfl k), (zL c rfl q), (zU c rfl).trans (congrArg (Value.int .i64) zx), (zU c rfl).trans (congrArg (Value.int .i64) zx), (by first | assumption | (simp only [Array.size_setIfInBounds, swp_sz, siftDown_size]; assumption)), zx, (hs.trans (pe_go E V zx)), hb, zx, t⟩ zx

end Go.Proofs.Ytdhpalioifjfbaa
