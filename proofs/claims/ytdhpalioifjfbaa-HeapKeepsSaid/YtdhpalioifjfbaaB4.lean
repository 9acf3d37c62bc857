/- What HeapKeeps keeps, plainly. -/
import Derived.Lib.AppendZerosOnto
import Derived.Lib.Overlaps
import Derived.Laws.Externs
import Derived.Lib.Bytealg
import Derived.Lib.UnsafeStr
import Derived.Test.YtdhpalioifjfbaaProg
import Derived.KernelRfl
import Derived.Test.YtdhpalioifjfbaaB3
set_option linter.unusedVariables false
set_option linter.unusedSimpArgs false

namespace Go.Proofs.Ytdhpalioifjfbaa
open Go.Gx Go.RowKit
def Hst (R : List (Int × By)) (A : List Int) (id : Nat) : Prop :=
  (A.getD id 0 = 0 ∧ mget R (id : Int) = none) ∨ (∃ (n : Nat) (r : By), n < 60 ∧ A.getD id 0 = (n : Int) + 1 ∧ mget R (id : Int) = some r ∧ r.length ≠ 0 ∧ r.getD 0 0 = UInt8.ofNat n)
structure KInv (R : List (Int × By)) (A : List Int) : Prop where
  len : A.length = 256
  at_ : ∀ id, id < 256 → Hst R A id
  keys : ∀ k ∈ R.map Prod.fst, 0 ≤ k ∧ k < 256
section
variable {R : List (Int × By)} {A : List Int} {id n k : Nat} {r : By}
theorem rep_get {n i : Nat} : (List.replicate n (0 : Int)).getD i 0 = 0 := by
  rw [List.getD_eq_getElem?_getD, List.getElem?_replicate]; split <;> rfl
theorem KInv.start : KInv [] (List.replicate 256 0) := ⟨List.length_replicate, fun id h => .inl ⟨rep_get, rfl⟩, fun k h => by cases h⟩
theorem getS {l : List Int} {i j : Nat} {x : Int} (h : i < l.length) : (l.set i x).getD j 0 = if j = i then x else l.getD j 0 := by
  by_cases hj : j = i
  · subst hj; rw [if_pos rfl]; simp [h]
  · rw [if_neg hj]; simp [List.getD_eq_getElem?_getD, List.getElem?_set_ne (Ne.symm hj)]
theorem KInv.put (h : KInv R A) (hd : (R.map Prod.fst).Nodup) (hid : id < 256) (hn : n < 60) (hr : r.length ≠ 0) (h0 : r.getD 0 0 = UInt8.ofNat n) : KInv (mput R (id : Int) r) (A.set id ((n : Int) + 1)) := by
  have hl := h.len
  refine ⟨by rw [List.length_set, hl], fun j hj => ?_, fun k hk => ?_⟩
  · unfold Hst
    rw [getS (by omega), mget_mput hd]
    by_cases hji : j = id
    · subst hji; rw [if_pos rfl, if_pos rfl]; exact .inr ⟨n, r, hn, rfl, rfl, hr, h0⟩
    · rw [if_neg hji, if_neg (by omega)]; exact h.at_ j hj
  · rcases keys_put.1 hk with q | q
    · exact h.keys k q
    · omega
theorem KInv.drop (h : KInv R A) (hd : (R.map Prod.fst).Nodup) (hid : id < 256) : KInv (mdel R (id : Int)) (A.set id 0) := by
  have hl := h.len
  refine ⟨by rw [List.length_set, hl], fun j hj => ?_, fun k hk => h.keys k ((mdel_keys hd).1 hk).1⟩
  unfold Hst
  rw [getS (by omega), mget_mdel hd]
  by_cases hji : j = id
  · subst hji; rw [if_pos rfl, if_pos rfl]; exact .inl ⟨rfl, rfl⟩
  · rw [if_neg hji, if_neg (by omega)]; exact h.at_ j hj
theorem KInv.drop_ok (h : KInv R A) (hid : id < 256) : (if (mget R (id : Int)).isSome = true then (0 : Int) else 22) = 0 ↔ 0 < A.getD id 0 := by
  rcases h.at_ id hid with ⟨a, b⟩ | ⟨n, r, a, b, c, _⟩
  · rw [a, b]; simp
  · rw [b, c]
    exact ⟨fun _ => by omega, fun _ => rfl⟩
theorem KInv.hit (h : KInv R A) (hid : id < 256) (hp : 0 < A.getD id 0) : ∃ (n : Nat) (r : By), n < 60 ∧ A.getD id 0 = (n : Int) + 1 ∧ mget R (id : Int) = some r ∧ r.length ≠ 0 ∧ r.getD 0 0 = UInt8.ofNat n := by
  rcases h.at_ id hid with ⟨a, b⟩ | q
  · omega
  · exact q
theorem KInv.miss (h : KInv R A) (hid : id < 256) (hp : ¬ 0 < A.getD id 0) : mget R (id : Int) = none := by
  rcases h.at_ id hid with ⟨a, b⟩ | ⟨n, r, a, b, c, _⟩
  · exact b
  · omega
theorem u8_at {l : By} {i : Nat} (h : i < l.length) : (l.map u8v)[i * 1 + 0]? = some (Value.int .u8 ((l.getD i 0).toNat : Int)) := by
  rw [Nat.mul_one, Nat.add_zero, List.getElem?_map, List.getElem?_eq_getElem h, List.getD_eq_getElem?_getD, List.getElem?_eq_getElem h]; rfl
def liveN (R : List (Int × By)) (k : Nat) : Nat := ((List.range k).filter (fun id => (mget R ((id : Nat) : Int)).isSome)).length
theorem liveN_t (h : (mget R (k : Int)).isSome = true) : liveN R (k + 1) = liveN R k + 1 := by
  unfold liveN; rw [List.range_succ, List.filter_append, List.length_append]; simp [h]
theorem liveN_f (h : mget R (k : Int) = none) : liveN R (k + 1) = liveN R k := by
  unfold liveN; rw [List.range_succ, List.filter_append, List.length_append]; simp [h]
theorem liveN_le (R : List (Int × By)) (k : Nat) : liveN R k ≤ k := by
  unfold liveN; exact Nat.le_trans (List.length_filter_le _ _) (by simp)
theorem liveN_all (h : KInv R A) (hd : (R.map Prod.fst).Nodup) : liveN R 256 = R.length := by
  have hp : (((List.range 256).filter (fun id => (mget R ((id : Nat) : Int)).isSome)).map fun i : Nat => (i : Int)).Perm (R.map Prod.fst) := by
    refine (List.perm_ext_iff_of_nodup ?_ hd).2 fun x => ?_
    · refine List.pairwise_map.2 ((List.Pairwise.filter _ (List.nodup_range (n := 256))).imp fun h q => h (by omega))
    · rw [List.mem_map]
      constructor
      · rintro ⟨i, hi, rfl⟩
        rw [List.mem_filter] at hi
        obtain ⟨T, hT⟩ := Option.isSome_iff_exists.1 hi.2
        exact List.mem_map.2 ⟨_, mget_mem hT, rfl⟩
      · intro hx
        have hk := h.keys x hx
        obtain ⟨T, hT⟩ := mget_in hx
        refine ⟨x.toNat, ?_, by omega⟩
        rw [List.mem_filter, List.mem_range]
        refine ⟨by omega, ?_⟩
        rw [show ((x.toNat : Nat) : Int) = x by omega, hT]; rfl
  have := hp.length_eq
  simpa [liveN] using this
theorem getD0_set {n : Nat} {c : UInt8} (h : 1 ≤ n) : ((List.replicate n (0 : UInt8)).set 0 c).getD 0 0 = c := by
  obtain ⟨m, rfl⟩ : ∃ m, n = m + 1 := ⟨n - 1, by omega⟩
  simp [List.replicate_succ]
end
end Go.Proofs.Ytdhpalioifjfbaa

namespace Go.Proofs.Ytdhpalioifjfbaa
open Go.Gx Go.RowKit
theorem tmod_nat {a b : Nat} : ((a : Nat) : Int).tmod ((b : Nat) : Int) = ((a % b : Nat) : Int) := rfl
def Trim (L : List By) : Prop := ∀ m, L.length = m + 1 → L.getD m [] ≠ []
theorem Trim.nil : Trim [] := fun m h => by simp at h
theorem Trim.cut (L : List By) : Trim (cutL L) := by
  intro m hm
  have key : ∀ l : List By, ∀ m, (l.dropWhile (· == [])).length = m + 1 → (l.dropWhile (· == [])).getD 0 [] ≠ [] := by
    intro l
    induction l with
    | nil => intro m h; simp at h
    | cons a t ih =>
      intro m h
      rw [List.dropWhile_cons] at h ⊢
      split
      · rename_i ha; rw [if_pos ha] at h; exact ih m h
      · rename_i ha; simpa using ha
  unfold cutL at hm ⊢
  rw [List.length_reverse] at hm
  have := key L.reverse m hm
  simp only [List.getD_eq_getElem?_getD] at this ⊢
  rw [List.getElem?_reverse (by omega), hm]
  simpa using this
theorem Trim.drop {L : List By} (h : Trim L) (k : Int) : Trim (dropN L k) := by
  unfold dropN; split
  · exact h
  · exact Trim.cut _
theorem Trim.put {L : List By} (h : Trim L) (r : By) : Trim (putN L r) := by
  unfold putN
  split
  · exact h
  · rename_i hb
    split
    · exact h
    · intro m hm
      have hf := freeL_le L
      have hr : r ≠ [] := by
        intro hh; subst hh; exact hb (by decide)
      have hl := layL_len (r := r) hf
      by_cases hk : m = freeL L
      · rw [hk, layL_get hf]; exact hr
      · rw [layL_other hf hk]; exact h m (by omega)
theorem map_get {A : List ByV} {i : Nat} (h : i < A.length) : (A.map Prod.snd).getD i [] = (A.getD i D0).2 := by
  simp only [List.getD_eq_getElem?_getD, List.getElem?_map, List.getElem?_eq_getElem h, Option.map_some, Option.getD_some]
theorem has_eq {A : List ByV} {k : Int} (h0 : 0 ≤ k) (h1 : k < (A.length : Int)) : decide (sizeL (A.map Prod.snd) k ≠ 0) = decide ((A.getD k.toNat D0).2 ≠ []) := by
  have e : k = ((k.toNat : Nat) : Int) := by omega
  have hk : k.toNat < A.length := by omega
  rw [e, sizeL_in (by simpa using hk), Int.toNat_natCast, map_get hk]
  simp [List.length_eq_zero_iff]
structure OpV where
  k : Int
  s : Int
  z : Int
  x : UInt8
def O0 : OpV := ⟨0, 0, 0, 0⟩
structure OkOp (o : OpV) : Prop where
  k : -9223372036854775808 ≤ o.k ∧ o.k ≤ 9223372036854775807
  s : -9223372036854775808 ≤ o.s ∧ o.s ≤ 9223372036854775807
  z : -9223372036854775808 ≤ o.z ∧ o.z ≤ 9223372036854775807
end Go.Proofs.Ytdhpalioifjfbaa

namespace Go.Gx
open Go.RowKit
section
variable {P : Program} {ol : List Oper} {Q : Exit → Act → World → Prop} {E : Type} {Φ : E → Nat → Value → Prop} {C : E → Nat → World → Prop} {ch : Chain} {a0 : Act} {N : Nat}
end

section
variable {P : Program} {ol : List Oper} {Q : Exit → Act → World → Prop} {ops : List Nat} {φ : Nat → Value → Prop} {G : World → Prop} {a0 : Act} {N : Nat}
def PhE (ops : List Nat) (φ : Nat → Value → Prop) (e : List Value) (j : Nat) (u : Value) : Prop := (∀ c : Nat, ops[c]? = some j → e[c]? = some u) ∧ (ops.contains j = false → φ j u)
theorem PhE.mono {e : List Value} {v : Value} {j : Nat} {u : Value} (h : PhE ops φ e j u) : PhE ops φ (e ++ [v]) j u :=
  ⟨fun c hc => by have h1 := h.1 c hc; have hl := (List.getElem?_eq_some_iff.1 h1).1; rw [List.getElem?_append_left hl]; exact h1, h.2⟩
theorem PhE.light {j : Nat} {e : List Value} {u : Value} (hh : ops.contains j = false) (h : φ j u) : PhE ops φ e j u :=
  ⟨fun c hc => by have : ops.contains j = true := by simpa using List.mem_of_getElem? hc
                  exact absurd (this.symm.trans hh) (by decide), fun _ => h⟩
def KE (P : Program) (ol : List Oper) (ops : List Nat) (φ : Nat → Value → Prop) (G : World → Prop) (a0 : Act) (N : Nat) (Q : Exit → Act → World → Prop) : List Nat → List Value → World → Prop
  | [], e, w => ∀ w1, w.grownBy w1 none → ∀ a', a'.tmps.size = N → a'.defers = a0.defers → (∀ t, (ol.all fun o => o.dst != some t) = true → a'.tmps.getD t undef = a0.tmps.getD t undef) →
      (∀ j oj d, ol[j]? = some oj → oj.dst = some d → PhE ops φ e j (a'.tmps.getD d undef)) → Q .normal (putsL a' []) w1
  | i :: r, e, w => ∀ w1, w.grownBy w1 none → G w1 → ∀ a, a.tmps.size = N → (∀ t, safeB ol i t = true → a.tmps.getD t undef = a0.tmps.getD t undef) → (∀ j oj d, depB ol i j = true → ol[j]? = some oj → oj.dst = some d → PhE ops φ e j (a.tmps.getD d undef)) →
      ∀ o, ol[i]? = some o → wpList P ol.toArray (fun ex a' w' => ex = .normal ∧ ∃ e', (∀ j u, PhE ops φ e j u → PhE ops φ e' j u) ∧ ((o.dst = none ∧ a' = a) ∨ ∃ d v, o.dst = some d ∧ a' = putsL a [(d, v)] ∧ PhE ops φ e' i v) ∧ (e'.length = e.length + 1 ∧ KE P ol ops φ G a0 N Q r e' w' ∧ G w')) [o] (putsL a []) w1
theorem KE.stable : ∀ {rs : List Nat} {e : List Value} {w w2 : World}, KE P ol ops φ G a0 N Q rs e w → w.grownBy w2 none → KE P ol ops φ G a0 N Q rs e w2
  | [], _, _, _, h, E => fun w1 E1 => h w1 (grown_trans E E1)
  | _ :: _, _, _, _, h, E => fun w1 E1 => h w1 (grown_trans E E1)
def ObE (P : Program) (ol : List Oper) (ops : List Nat) (φ : Nat → Value → Prop) (G : World → Prop) (a0 : Act) (N : Nat) (i : Nat) (o : Oper) : Prop :=
  ∀ (e : List Value) (a : Act) (w : World), a.tmps.size = N → G w → (∀ t, safeB ol i t = true → a.tmps.getD t undef = a0.tmps.getD t undef) → (∀ j oj d, depB ol i j = true → ol[j]? = some oj → oj.dst = some d → PhE ops φ e j (a.tmps.getD d undef)) →
    wpList P ol.toArray (fun ex a' w' => ex = .normal ∧ (∃ d v, o.dst = some d ∧ a' = putsL a [(d, v)] ∧ PhE ops φ e i v) ∧ w.grownBy w' none) [o] (putsL a []) w
def ObEs (P : Program) (ol : List Oper) (ops : List Nat) (φ : Nat → Value → Prop) (G : World → Prop) (a0 : Act) (N : Nat) : Nat → List Oper → Prop
  | _, [] => True
  | i, o :: r => (ops.contains i = false → ObE P ol ops φ G a0 N i o) ∧ ObEs P ol ops φ G a0 N (i + 1) r
theorem ObEs.nil {i : Nat} : ObEs P ol ops φ G a0 N i [] := trivial
theorem ObEs.cons {i : Nat} {o : Oper} {r : List Oper} (h : ObE P ol ops φ G a0 N i o) (h' : ObEs P ol ops φ G a0 N (i + 1) r) : ObEs P ol ops φ G a0 N i (o :: r) := ⟨fun _ => h, h'⟩
theorem ObEs.pass {i : Nat} {o : Oper} {r : List Oper} (hh : ops.contains i = true) (h' : ObEs P ol ops φ G a0 N (i + 1) r) : ObEs P ol ops φ G a0 N i (o :: r) := ⟨fun h => absurd (hh.symm.trans h) (by decide), h'⟩
theorem ObEs.getx : ∀ {l : List Oper} {i : Nat}, ObEs P ol ops φ G a0 N i l → ∀ j o, l[j]? = some o → ops.contains (i + j) = false → ObE P ol ops φ G a0 N (i + j) o
  | [], _, _, j, o, h, _ => by simp at h
  | o' :: r, i, h, 0, o, hj, hs => by simp at hj; subst hj; exact h.1 hs
  | o' :: r, i, h, j + 1, o, hj, hs => by
    have := ObEs.getx h.2 j o (by simpa using hj) (by rwa [show i + 1 + j = i + (j + 1) by omega])
    rwa [show i + 1 + j = i + (j + 1) by omega] at this
end
end Go.Gx

namespace Go.Gx
open Go.RowKit
section
variable {P : Program} {ol : List Oper} {Q : Exit → Act → World → Prop} {bigs : List Nat} {φ : Nat → Value → Prop} {G : World → Prop} {a0 : Act} {N : Nat}
def PhT (bigs : List Nat) (φ : Nat → Value → Prop) (e : List (Nat × Value)) (j : Nat) (u : Value) : Prop := (bigs.contains j = true → e.lookup j = some u) ∧ (bigs.contains j = false → φ j u)
theorem PhT.mono {e : List (Nat × Value)} {i j : Nat} {v u : Value} (hij : j ≠ i) (h : PhT bigs φ e j u) : PhT bigs φ ((i, v) :: e) j u :=
  ⟨fun hb => by rw [List.lookup_cons, beq_false_of_ne hij]; exact h.1 hb, h.2⟩
structure TInv (ol : List Oper) (bigs : List Nat) (φ : Nat → Value → Prop) (a0 : Act) (N : Nat) (listed : Array Bool) (todo : List Nat) (e : List (Nat × Value)) (a : Act) : Prop where
  size : a.tmps.size = N
  defers : a.defers = a0.defers
  base : ∀ t, (∀ j o, ol[j]? = some o → listed.getD j true = true → o.dst ≠ some t) → a.tmps.getD t undef = a0.tmps.getD t undef
  phi : ∀ j o d, ol[j]? = some o → listed.getD j true = true → o.dst = some d → PhT bigs φ e j (a.tmps.getD d undef)
  closed : ∀ j o, ol[j]? = some o → listed.getD j true = true → ∀ x ∈ o.after, Region.binds .any x = true → listed.getD x.on false = true
  lsize : listed.size = ol.length
  todos : ∀ i, i ∈ todo ↔ i ∈ bigs ∧ listed.getD i true = false
  nodup : List.Nodup todo
def KI (P : Program) (ol : List Oper) (bigs : List Nat) (φ : Nat → Value → Prop) (G : World → Prop) (a0 : Act) (N : Nat) (e : List (Nat × Value)) (i : Nat) (w : World) (K : Value → World → Prop) : Prop :=
  ∀ w1, w.grownBy w1 none → G w1 → ∀ a, a.tmps.size = N → (∀ t, safeB ol i t = true → a.tmps.getD t undef = a0.tmps.getD t undef) → (∀ j oj d, depB ol i j = true → ol[j]? = some oj → oj.dst = some d → PhT bigs φ e j (a.tmps.getD d undef)) →
    ∀ o, ol[i]? = some o → wpList P ol.toArray (fun ex a' w' => ex = .normal ∧ ∃ v, ((o.dst = none ∧ a' = a) ∨ ∃ d, o.dst = some d ∧ a' = putsL a [(d, v)]) ∧ K v w' ∧ G w') [o] (putsL a []) w1
def readyT (ol : List Oper) (todo : List Nat) : List Nat := todo.filter fun i => todo.all fun j => !depB ol i j
def KT (P : Program) (ol : List Oper) (bigs : List Nat) (φ : Nat → Value → Prop) (G : World → Prop) (a0 : Act) (N : Nat) (Q : Exit → Act → World → Prop) : Nat → List Nat → List (Nat × Value) → World → Prop
  | 0, _, e, w => ∀ w1, w.grownBy w1 none → ∀ a', a'.tmps.size = N → a'.defers = a0.defers → (∀ t, (ol.all fun o => o.dst != some t) = true → a'.tmps.getD t undef = a0.tmps.getD t undef) →
      (∀ j oj d, ol[j]? = some oj → oj.dst = some d → PhT bigs φ e j (a'.tmps.getD d undef)) → Q .normal (putsL a' []) w1
  | n + 1, todo, e, w => ∀ i ∈ readyT ol todo, KI P ol bigs φ G a0 N e i w fun v w' => KT P ol bigs φ G a0 N Q n (todo.erase i) ((i, v) :: e) w'
theorem KT.stable : ∀ {n : Nat} {todo : List Nat} {e : List (Nat × Value)} {w w2 : World}, KT P ol bigs φ G a0 N Q n todo e w → w.grownBy w2 none → KT P ol bigs φ G a0 N Q n todo e w2
  | 0, _, _, _, _, h, E => fun w1 E1 => h w1 (grown_trans E E1)
  | _ + 1, _, _, _, _, h, E => fun i hi w1 E1 => h i hi w1 (grown_trans E E1)
def ObR9 (P : Program) (ol : List Oper) (bigs : List Nat) (φ : Nat → Value → Prop) (G : World → Prop) (a0 : Act) (N : Nat) (i : Nat) (o : Oper) : Prop :=
  ∀ (e : List (Nat × Value)) (a : Act) (w : World), a.tmps.size = N → G w → (∀ t, safeB ol i t = true → a.tmps.getD t undef = a0.tmps.getD t undef) → (∀ j oj d, depB ol i j = true → ol[j]? = some oj → oj.dst = some d → PhT bigs φ e j (a.tmps.getD d undef)) →
    wpList P ol.toArray (fun ex a' w' => ex = .normal ∧ (∃ d v, o.dst = some d ∧ a' = putsL a [(d, v)] ∧ φ i v) ∧ w.grownBy w' none) [o] (putsL a []) w
def ObRs9 (P : Program) (ol : List Oper) (bigs : List Nat) (φ : Nat → Value → Prop) (G : World → Prop) (a0 : Act) (N : Nat) : Nat → List Oper → Prop
  | _, [] => True
  | i, o :: r => (bigs.contains i = false → ObR9 P ol bigs φ G a0 N i o) ∧ ObRs9 P ol bigs φ G a0 N (i + 1) r
theorem ObRs9.nil {i : Nat} : ObRs9 P ol bigs φ G a0 N i [] := trivial
theorem ObRs9.cons {i : Nat} {o : Oper} {r : List Oper} (h : ObR9 P ol bigs φ G a0 N i o) (h' : ObRs9 P ol bigs φ G a0 N (i + 1) r) : ObRs9 P ol bigs φ G a0 N i (o :: r) := ⟨fun _ => h, h'⟩
theorem ObRs9.pass {i : Nat} {o : Oper} {r : List Oper} (hh : bigs.contains i = true) (h' : ObRs9 P ol bigs φ G a0 N (i + 1) r) : ObRs9 P ol bigs φ G a0 N i (o :: r) := ⟨fun h => absurd (hh.symm.trans h) (by decide), h'⟩
theorem ObRs9.getx : ∀ {l : List Oper} {i : Nat}, ObRs9 P ol bigs φ G a0 N i l → ∀ j o, l[j]? = some o → bigs.contains (i + j) = false → ObR9 P ol bigs φ G a0 N (i + j) o
  | [], _, _, j, o, h, _ => by simp at h
  | o' :: r, i, h, 0, o, hj, hs => by simp at hj; subst hj; exact h.1 hs
  | o' :: r, i, h, j + 1, o, hj, hs => by
    have := ObRs9.getx h.2 j o (by simpa using hj) (by rwa [show i + 1 + j = i + (j + 1) by omega])
    rwa [show i + 1 + j = i + (j + 1) by omega] at this
theorem region_tree_steps (hlex : lexB' ol = true) (hdn : dstNB ol N = true) (hdst : dstsB ol = true) (hbl : (bigs.all fun i => Nat.blt i ol.length) = true)
    (hG : ∀ w1 w2, w1.grownBy w2 none → G w1 → G w2) (obL : ∀ i o, ol[i]? = some o → bigs.contains i = false → ObR9 P ol bigs φ G a0 N i o) :
    ∀ (fuel : Nat) (listed : Array Bool) (todo : List Nat) (e : List (Nat × Value)) (a : Act) (w : World), TInv ol bigs φ a0 N listed todo e a → KT P ol bigs φ G a0 N Q todo.length todo e w → G w → (List.range ol.length).countP (fun i => !listed.getD i true) ≤ fuel → wpAny P .any ol.toArray Q fuel listed a w := by
  have done : ∀ (listed : Array Bool) (todo : List Nat) (e : List (Nat × Value)) (a : Act) (w : World), TInv ol bigs φ a0 N listed todo e a → KT P ol bigs φ G a0 N Q todo.length todo e w → Region.ready .any ol.toArray listed = [] → Q .normal a w := by
    intro listed todo ee a w I hk hr
    have hall : ∀ i, i < ol.length → listed.getD i true = true := by
      intro i
      induction i using Nat.strongRecOn with
      | _ i ih =>
        intro hi
        by_cases hq : listed.getD i true = true
        · exact hq
        · exfalso
          have hm : i ∈ Region.ready .any ol.toArray listed := by
            rw [mem_ready]
            refine ⟨by simpa using hq, ol[i], by simp [hi], fun e he hb => ?_⟩
            have h1 := List.all_eq_true.1 hlex i (by simp [hi])
            simp only [List.getElem?_eq_getElem hi, Array.all_eq_true_iff_forall_mem, Bool.or_eq_true, Bool.not_eq_true', Nat.blt_eq] at h1
            have h2 := (h1 e he).resolve_left (by simp [hb])
            exact getD_true_lt (ih e.on h2 (by omega)) (by rw [I.lsize]; omega)
          rw [hr] at hm
          cases hm
    have ht : todo = [] := by
      rw [List.eq_nil_iff_forall_not_mem]
      intro i hi
      obtain ⟨hb, hl⟩ := (I.todos i).1 hi
      have := List.all_eq_true.1 hbl i hb
      rw [hall i (by simpa [Nat.blt_eq] using this)] at hl
      cases hl
    subst ht
    exact hk w (grown_refl _ _) a I.size I.defers (fun t ht => I.base t fun j o hj _ hd' => by
      have := List.all_eq_true.1 ht o (List.mem_of_getElem? hj)
      simp [hd'] at this) (fun j oj d hj hd' => I.phi j oj d hj (hall j (List.getElem?_eq_some_iff.1 hj).1) hd')
  intro fuel
  induction fuel with
  | zero =>
    intro listed todo ee a w I hk hg hcnt
    have hr : Region.ready .any ol.toArray listed = [] := by
      rw [List.eq_nil_iff_forall_not_mem]
      intro i hi
      obtain ⟨h1, o, ho, _⟩ := mem_ready.1 hi
      have hlt : i < ol.length := by simpa using (Array.getElem?_eq_some_iff.1 ho).1
      have hz : (List.range ol.length).countP (fun i => !listed.getD i true) = 0 := by omega
      rw [List.countP_eq_zero] at hz
      exact hz i (by simp [hlt]) (by simp [h1])
    exact ⟨hr, done listed todo ee a w I hk hr⟩
  | succ fuel ih =>
    intro listed todo ee a w I hk hg hcnt
    refine ⟨fun hr => done listed todo ee a w I hk hr, fun i hi => ?_⟩
    obtain ⟨hun, o, ho, hwait⟩ := mem_ready.1 hi
    have ho' : ol[i]? = some o := by simpa using ho
    have hlt : i < ol.length := (List.getElem?_eq_some_iff.1 ho').1
    have hls : i < listed.size := by rw [I.lsize]; exact hlt
    have hcnt' : (List.range ol.length).countP (fun j => !(listed.setIfInBounds i true).getD j true) ≤ fuel := by
      have : (List.range ol.length).countP (fun j => !(listed.setIfInBounds i true).getD j true) < (List.range ol.length).countP (fun j => !listed.getD j true) := by
        refine countP_lt _ _ (fun y hy => ?_) _ i (by simp [hlt]) (by simp [hun]) (by simp [Array.getD_eq_getD_getElem?, hls])
        by_cases hiy : i = y
        · subst hiy; simp [Array.getD_eq_getD_getElem?, hls] at hy
        · rwa [getD_set_ne true hiy] at hy
      omega
    have hbase : ∀ t, safeB ol i t = true → a.tmps.getD t undef = a0.tmps.getD t undef := by
      intro t ht
      refine I.base t fun j oj hj hlj hd => ?_
      have h1 := List.all_eq_true.1 ht oj (List.mem_of_getElem? hj)
      simp only [Bool.or_eq_true, bne_iff_ne, ne_eq, Array.any_eq_true, Bool.and_eq_true, beq_iff_eq] at h1
      rcases h1 with h1 | ⟨q, hq, h1, h2⟩
      · exact h1 hd
      · have := getD_of_false (I.closed j oj hj hlj _ (Array.getElem_mem hq) h2)
        rw [h1, hun] at this
        cases this
    have hdep : ∀ j oj d, depB ol i j = true → ol[j]? = some oj → oj.dst = some d → PhT bigs φ ee j (a.tmps.getD d undef) := by
      intro j oj d hj hoj hd
      obtain ⟨e, he, h1, h2⟩ := depB_spec ho' hj
      exact I.phi j oj d hoj (getD_of_false (by rw [← h1]; exact hwait e he h2)) hd
    have hset : ∀ j, j ≠ i → (listed.setIfInBounds i true).getD j true = listed.getD j true := fun j hj => getD_set_ne true (Ne.symm hj)
    have hseti : (listed.setIfInBounds i true).getD i true = true := by simp [Array.getD_eq_getD_getElem?, hls]
    have hclosed : ∀ j oj, ol[j]? = some oj → (listed.setIfInBounds i true).getD j true = true → ∀ e ∈ oj.after, Region.binds .any e = true → (listed.setIfInBounds i true).getD e.on false = true := by
      intro j oj hoj hlj e he hb
      refine getD_set_true ?_
      by_cases hji : j = i
      · subst hji
        rw [ho'] at hoj; cases hoj
        exact hwait e he hb
      · rw [hset j hji] at hlj
        exact I.closed j oj hoj hlj e he hb
    have hne : ∀ j oj d, ol[j]? = some oj → j ≠ i → o.dst = some d → oj.dst ≠ some d := by
      intro j oj d hoj hji hd hd'
      have hj : j < ol.length := (List.getElem?_eq_some_iff.1 hoj).1
      have h1 := List.all_eq_true.1 (List.all_eq_true.1 hdst i (by simp [hlt])) j (by simp [hj])
      simp only [ho', hoj, Bool.or_eq_true, beq_iff_eq, bne_iff_ne, ne_eq] at h1
      rcases h1 with h1 | h1 | h1
      · exact hji h1.symm
      · exact h1 (by rw [hd, hd'])
      · rw [hd] at h1; cases h1
    -- what is left of the frame, behind a value in slot d
    have hframe : ∀ d v (e' : List (Nat × Value)), o.dst = some d → (∀ j u, j ≠ i → PhT bigs φ ee j u → PhT bigs φ e' j u) → PhT bigs φ e' i v → 
        (∀ t, (∀ j oj, ol[j]? = some oj → (listed.setIfInBounds i true).getD j true = true → oj.dst ≠ some t) → (putsL a [(d, v)]).tmps.getD t undef = a0.tmps.getD t undef) ∧
        (∀ j oj d', ol[j]? = some oj → (listed.setIfInBounds i true).getD j true = true → oj.dst = some d' → PhT bigs φ e' j ((putsL a [(d, v)]).tmps.getD d' undef)) := by
      intro d v e' hd hR hv
      have hdN : d < a.tmps.size := by
        have h1 := List.all_eq_true.1 hdn o (List.mem_of_getElem? ho')
        simp only [hd, Nat.blt_eq] at h1
        rw [I.size]; exact h1
      refine ⟨fun t ht => ?_, fun j oj d' hoj hlj hd' => ?_⟩
      · have hdt : d ≠ t := fun e => ht i o ho' hseti (by rw [hd, e])
        rw [get_put_ne hdt]
        refine I.base t fun j oj hoj hlj => ?_
        by_cases hji : j = i
        · subst hji; rw [hun] at hlj; cases hlj
        · exact ht j oj hoj (by rw [hset j hji]; exact hlj)
      · by_cases hji : j = i
        · subst hji
          rw [ho'] at hoj; cases hoj
          rw [hd] at hd'; cases hd'
          rw [get_put_eq hdN]
          exact hv
        · rw [hset j hji] at hlj
          have : d ≠ d' := fun e => hne j oj d hoj hji hd (by rw [hd', e])
          rw [get_put_ne this]
          exact hR j _ hji (I.phi j oj d' hoj hlj hd')
    by_cases hin : bigs.contains i = true
    · have hmem : i ∈ bigs := by simpa using hin
      have hit : i ∈ todo := (I.todos i).2 ⟨hmem, hun⟩
      have hrt : i ∈ readyT ol todo := by
        unfold readyT
        rw [List.mem_filter]
        refine ⟨hit, List.all_eq_true.2 fun j hj => ?_⟩
        cases hd : depB ol i j with
        | false => rfl
        | true =>
          obtain ⟨x, hx, h1, h2⟩ := depB_spec ho' hd
          have h3 := getD_of_false (hwait x hx h2)
          rw [h1, ((I.todos j).1 hj).2] at h3
          cases h3
      obtain ⟨n, hn⟩ : ∃ n, todo.length = n + 1 := ⟨todo.length - 1, by have := List.length_pos_of_mem hit; omega⟩
      have hn2 : (todo.erase i).length = n := by rw [List.length_erase_of_mem hit, hn]; rfl
      rw [hn] at hk
      have h0 := hk i hrt w (grown_refl _ _) hg a I.size hbase hdep o ho'
      refine wp_one (by simpa using ho') h0 fun a' w' h => ?_
      obtain ⟨v, h1, h2, h3⟩ := h
      have htodo : ∀ x, x ∈ todo.erase i ↔ x ∈ bigs ∧ (listed.setIfInBounds i true).getD x true = false := by
        intro x
        rw [I.nodup.mem_erase_iff, I.todos]
        by_cases hxi : x = i
        · subst hxi; simp [hseti]
        · rw [hset x hxi]; simp [hxi]
      refine ih _ (todo.erase i) ((i, v) :: ee) a' w' ?_ (by rw [hn2]; exact h2) h3 hcnt'
      have hpi : PhT bigs φ ((i, v) :: ee) i v := ⟨fun _ => by simp, fun hh => absurd (hin.symm.trans hh) (by decide)⟩
      rcases h1 with ⟨hd, rfl⟩ | ⟨d, hd, rfl⟩
      · refine ⟨I.size, I.defers, fun t ht => ?_, fun j oj d' hoj hlj hd' => ?_, hclosed, by simp [I.lsize], htodo, I.nodup.erase i⟩
        · refine I.base t fun j oj hoj hlj => ?_
          by_cases hji : j = i
          · subst hji; rw [hun] at hlj; cases hlj
          · exact ht j oj hoj (by rw [hset j hji]; exact hlj)
        · by_cases hji : j = i
          · subst hji
            rw [ho'] at hoj; cases hoj
            rw [hd] at hd'; cases hd'
          · rw [hset j hji] at hlj
            exact PhT.mono hji (I.phi j oj d' hoj hlj hd')
      · obtain ⟨f1, f2⟩ := hframe d v ((i, v) :: ee) hd (fun j u hj h => h.mono hj) hpi
        exact ⟨by rw [putsL_size, I.size], by rw [putsL_defers, I.defers], f1, f2, hclosed, by simp [I.lsize], htodo, I.nodup.erase i⟩
    · have hin' : bigs.contains i = false := by simpa using hin
      refine wp_one (by simpa using ho') (obL i o ho' hin' ee a w I.size hg hbase hdep) fun a' w' h => ?_
      obtain ⟨⟨d, v, hd, rfl, hv⟩, hgr⟩ := h
      obtain ⟨f1, f2⟩ := hframe d v ee hd (fun _ _ _ h => h) ⟨fun hh => absurd (hin'.symm.trans hh) (by decide), fun _ => hv⟩
      refine ih _ todo ee _ w' ⟨by rw [putsL_size, I.size], by rw [putsL_defers, I.defers], f1, f2, hclosed, by simp [I.lsize], fun x => ?_, I.nodup⟩ (hk.stable hgr) (hG _ _ hgr hg) hcnt'
      rw [I.todos]
      by_cases hxi : x = i
      · subst hxi; simp [hseti, hun]; simpa using hin'
      · rw [hset x hxi]
theorem any_tree (bigs : List Nat) (hlex : lexB' ol = true) (hdn : dstNB ol N = true) (hdst : dstsB ol = true) (hbl : (bigs.all fun i => Nat.blt i ol.length) = true) (hnd : decide bigs.Nodup = true)
    {l : List (Nat × Value)} {w : World} (hN : a0.tmps.size = N) (hG : ∀ w1 w2, w1.grownBy w2 none → G w1 → G w2) (g0 : G w) (obL : ObRs9 P ol bigs φ G (putsL a0 l) N 0 ol) (hdf : (putsL a0 l).defers = a0.defers)
    (main : KT P ol bigs φ G (putsL a0 l) N Q bigs.length bigs [] w) : RegAny P ol Q (putsL a0 l) w := by
  have hd : w.grownBy { w with drawn := w.drawn + 1 } none := ⟨rfl, rfl, rfl, Nat.le_refl _, fun _ _ _ => rfl⟩
  have I : TInv ol bigs φ (putsL a0 l) N (Array.replicate ol.length false) bigs [] (putsL a0 l) := by
    refine ⟨slN hN, rfl, fun _ _ => rfl, fun j o d hj hl => ?_, fun j o hj hl => ?_, by simp, fun i => ⟨fun hi => ⟨hi, ?_⟩, fun hi => hi.1⟩, of_decide_eq_true hnd⟩
    · have : j < ol.length := (List.getElem?_eq_some_iff.1 hj).1
      simp [Array.getD_eq_getD_getElem?, this] at hl
    · have : j < ol.length := (List.getElem?_eq_some_iff.1 hj).1
      simp [Array.getD_eq_getD_getElem?, this] at hl
    · have := List.all_eq_true.1 hbl i hi
      have h3 : i < ol.length := by simpa [Nat.blt_eq] using this
      simp [Array.getD_eq_getD_getElem?, h3]
  exact region_tree_steps (P := P) (Q := Q) hlex hdn hdst hbl hG (fun i o hi hh => by
      have h5 := ObRs9.getx obL i o hi (by rw [Nat.zero_add]; exact hh)
      rw [Nat.zero_add] at h5; exact h5) ol.length (Array.replicate ol.length false) bigs [] (putsL a0 l) _ I (main.stable hd) (hG _ _ hd g0) (Nat.le_trans (List.countP_le_length) (by simp))
theorem kt_step {n : Nat} {todo rs : List Nat} {e : List (Nat × Value)} {w : World} (hr : readyT ol todo = rs) (h : ∀ i ∈ rs, KI P ol bigs φ G a0 N e i w fun v w' => KT P ol bigs φ G a0 N Q n (todo.erase i) ((i, v) :: e) w') : KT P ol bigs φ G a0 N Q (n + 1) todo e w := by
  subst hr; exact h
theorem one_mem {p : Nat → Prop} {x : Nat} (h : p x) : ∀ i ∈ [x], p i := fun i hi => by
  obtain rfl : i = x := by simpa using hi
  exact h
theorem kt_end {o : Oper} {d : Nat} {v : Value} {a : Act} {w : World} {K : Value → World → Prop} (hd : o.dst = some d) (g : G w) (h : K v w) :
    wpList P ol.toArray (fun ex a' w' => ex = .normal ∧ ∃ v, ((o.dst = none ∧ a' = a) ∨ ∃ d, o.dst = some d ∧ a' = putsL a [(d, v)]) ∧ K v w' ∧ G w') [] (putsL a [(d, v)]) w := ⟨rfl, v, .inr ⟨d, hd, rfl⟩, h, g⟩
theorem obT_end {o : Oper} {i d : Nat} {v : Value} {a : Act} {w : World} (hd : o.dst = some d) (hv : φ i v) :
    wpList P ol.toArray (fun ex a' w' => ex = .normal ∧ (∃ d v, o.dst = some d ∧ a' = putsL a [(d, v)] ∧ φ i v) ∧ w.grownBy w' none) [] (putsL a [(d, v)]) w := ⟨rfl, ⟨d, v, hd, rfl, hv⟩, grown_refl _ _⟩
end
end Go.Gx

namespace Go.Gx
open Go.RowKit
section
variable {P : Program} {ol : List Oper} {Q : Exit → Act → World → Prop} {E : Type} {Φ : E → Nat → Value → Prop} {C : E → Nat → World → Prop} {ch : Chain} {a0 : Act} {N : Nat}
end

section
variable {P : Program} {ol : List Oper} {Q : Exit → Act → World → Prop} {ops : List Nat} {φ : Nat → Value → Prop} {G : Nat → World → Prop} {a0 : Act} {N : Nat}
def PhK (ops : List Nat) (φ : Nat → Value → Prop) (e : List Value) (j : Nat) (u : Value) : Prop := (∀ c : Nat, ops[c]? = some j → e[c]? = some u) ∧ (ops.contains j = false → φ j u)
theorem PhK.mono {e : List Value} {v : Value} {j : Nat} {u : Value} (h : PhK ops φ e j u) : PhK ops φ (e ++ [v]) j u :=
  ⟨fun c hc => by have h1 := h.1 c hc; have hl := (List.getElem?_eq_some_iff.1 h1).1; rw [List.getElem?_append_left hl]; exact h1, h.2⟩
theorem PhK.light {j : Nat} {e : List Value} {u : Value} (hh : ops.contains j = false) (h : φ j u) : PhK ops φ e j u :=
  ⟨fun c hc => by have : ops.contains j = true := by simpa using List.mem_of_getElem? hc
                  exact absurd (this.symm.trans hh) (by decide), fun _ => h⟩
def KK (P : Program) (ol : List Oper) (ops : List Nat) (φ : Nat → Value → Prop) (G : Nat → World → Prop) (a0 : Act) (N : Nat) (Q : Exit → Act → World → Prop) : List Nat → List Value → World → Prop
  | [], e, w => ∀ w1, w.grownBy w1 none → ∀ a', a'.tmps.size = N → a'.defers = a0.defers → (∀ t, (ol.all fun o => o.dst != some t) = true → a'.tmps.getD t undef = a0.tmps.getD t undef) →
      (∀ j oj d, ol[j]? = some oj → oj.dst = some d → PhK ops φ e j (a'.tmps.getD d undef)) → Q .normal (putsL a' []) w1
  | i :: r, e, w => ∀ w1, w.grownBy w1 none → G e.length w1 → ∀ a, a.tmps.size = N → (∀ t, safeB ol i t = true → a.tmps.getD t undef = a0.tmps.getD t undef) → (∀ j oj d, depB ol i j = true → ol[j]? = some oj → oj.dst = some d → PhK ops φ e j (a.tmps.getD d undef)) →
      ∀ o, ol[i]? = some o → wpList P ol.toArray (fun ex a' w' => ex = .normal ∧ ∃ e', (∀ j u, PhK ops φ e j u → PhK ops φ e' j u) ∧ ((o.dst = none ∧ a' = a) ∨ ∃ d v, o.dst = some d ∧ a' = putsL a [(d, v)] ∧ PhK ops φ e' i v) ∧ (e'.length = e.length + 1 ∧ KK P ol ops φ G a0 N Q r e' w' ∧ G (e.length + 1) w')) [o] (putsL a []) w1
theorem KK.stable : ∀ {rs : List Nat} {e : List Value} {w w2 : World}, KK P ol ops φ G a0 N Q rs e w → w.grownBy w2 none → KK P ol ops φ G a0 N Q rs e w2
  | [], _, _, _, h, E => fun w1 E1 => h w1 (grown_trans E E1)
  | _ :: _, _, _, _, h, E => fun w1 E1 => h w1 (grown_trans E E1)
def ObK (P : Program) (ol : List Oper) (ops : List Nat) (φ : Nat → Value → Prop) (G : Nat → World → Prop) (a0 : Act) (N : Nat) (i : Nat) (o : Oper) : Prop :=
  ∀ (e : List Value) (a : Act) (w : World), a.tmps.size = N → (∀ m k, ops[m]? = some k → depB ol k i = true → e.length ≤ m) → G e.length w → (∀ t, safeB ol i t = true → a.tmps.getD t undef = a0.tmps.getD t undef) → (∀ j oj d, depB ol i j = true → ol[j]? = some oj → oj.dst = some d → PhK ops φ e j (a.tmps.getD d undef)) →
    wpList P ol.toArray (fun ex a' w' => ex = .normal ∧ (∃ d v, o.dst = some d ∧ a' = putsL a [(d, v)] ∧ PhK ops φ e i v) ∧ w.grownBy w' none) [o] (putsL a []) w
def ObKs (P : Program) (ol : List Oper) (ops : List Nat) (φ : Nat → Value → Prop) (G : Nat → World → Prop) (a0 : Act) (N : Nat) : Nat → List Oper → Prop
  | _, [] => True
  | i, o :: r => (ops.contains i = false → ObK P ol ops φ G a0 N i o) ∧ ObKs P ol ops φ G a0 N (i + 1) r
theorem ObKs.nil {i : Nat} : ObKs P ol ops φ G a0 N i [] := trivial
theorem ObKs.cons {i : Nat} {o : Oper} {r : List Oper} (h : ObK P ol ops φ G a0 N i o) (h' : ObKs P ol ops φ G a0 N (i + 1) r) : ObKs P ol ops φ G a0 N i (o :: r) := ⟨fun _ => h, h'⟩
theorem ObKs.pass {i : Nat} {o : Oper} {r : List Oper} (hh : ops.contains i = true) (h' : ObKs P ol ops φ G a0 N (i + 1) r) : ObKs P ol ops φ G a0 N i (o :: r) := ⟨fun h => absurd (hh.symm.trans h) (by decide), h'⟩
theorem ObKs.getx : ∀ {l : List Oper} {i : Nat}, ObKs P ol ops φ G a0 N i l → ∀ j o, l[j]? = some o → ops.contains (i + j) = false → ObK P ol ops φ G a0 N (i + j) o
  | [], _, _, j, o, h, _ => by simp at h
  | o' :: r, i, h, 0, o, hj, hs => by simp at hj; subst hj; exact h.1 hs
  | o' :: r, i, h, j + 1, o, hj, hs => by
    have := ObKs.getx h.2 j o (by simpa using hj) (by rwa [show i + 1 + j = i + (j + 1) by omega])
    rwa [show i + 1 + j = i + (j + 1) by omega] at this
end
end Go.Gx

namespace Go.Gx
open Go.RowKit
section
variable {P : Program} {ol : List Oper} {Q : Exit → Act → World → Prop} {bigs : List Nat} {φ : Nat → Value → Prop} {G : List Nat → World → Prop} {a0 : Act} {N : Nat}
def KIk (P : Program) (ol : List Oper) (bigs : List Nat) (φ : Nat → Value → Prop) (G : List Nat → World → Prop) (a0 : Act) (N : Nat) (e : List (Nat × Value)) (todo : List Nat) (i : Nat) (w : World) (K : Value → World → Prop) : Prop :=
  ∀ w1, w.grownBy w1 none → G todo w1 → ∀ a, a.tmps.size = N → (∀ t, safeB ol i t = true → a.tmps.getD t undef = a0.tmps.getD t undef) → (∀ j oj d, depB ol i j = true → ol[j]? = some oj → oj.dst = some d → PhT bigs φ e j (a.tmps.getD d undef)) →
    ∀ o, ol[i]? = some o → wpList P ol.toArray (fun ex a' w' => ex = .normal ∧ ∃ v, ((o.dst = none ∧ a' = a) ∨ ∃ d, o.dst = some d ∧ a' = putsL a [(d, v)]) ∧ K v w' ∧ G (todo.erase i) w') [o] (putsL a []) w1
def KTk (P : Program) (ol : List Oper) (bigs : List Nat) (φ : Nat → Value → Prop) (G : List Nat → World → Prop) (a0 : Act) (N : Nat) (Q : Exit → Act → World → Prop) : Nat → List Nat → List (Nat × Value) → World → Prop
  | 0, _, e, w => ∀ w1, w.grownBy w1 none → ∀ a', a'.tmps.size = N → a'.defers = a0.defers → (∀ t, (ol.all fun o => o.dst != some t) = true → a'.tmps.getD t undef = a0.tmps.getD t undef) →
      (∀ j oj d, ol[j]? = some oj → oj.dst = some d → PhT bigs φ e j (a'.tmps.getD d undef)) → Q .normal (putsL a' []) w1
  | n + 1, todo, e, w => ∀ i ∈ readyT ol todo, KIk P ol bigs φ G a0 N e todo i w fun v w' => KTk P ol bigs φ G a0 N Q n (todo.erase i) ((i, v) :: e) w'
theorem KTk.stable : ∀ {n : Nat} {todo : List Nat} {e : List (Nat × Value)} {w w2 : World}, KTk P ol bigs φ G a0 N Q n todo e w → w.grownBy w2 none → KTk P ol bigs φ G a0 N Q n todo e w2
  | 0, _, _, _, _, h, E => fun w1 E1 => h w1 (grown_trans E E1)
  | _ + 1, _, _, _, _, h, E => fun i hi w1 E1 => h i hi w1 (grown_trans E E1)
def ObQ9 (P : Program) (ol : List Oper) (bigs : List Nat) (φ : Nat → Value → Prop) (G : List Nat → World → Prop) (a0 : Act) (N : Nat) (i : Nat) (o : Oper) : Prop :=
  ∀ (e : List (Nat × Value)) (todo : List Nat) (a : Act) (w : World), a.tmps.size = N → (∀ j, bigs.contains j = true → depB ol j i = true → j ∈ todo) → G todo w → (∀ t, safeB ol i t = true → a.tmps.getD t undef = a0.tmps.getD t undef) → (∀ j oj d, depB ol i j = true → ol[j]? = some oj → oj.dst = some d → PhT bigs φ e j (a.tmps.getD d undef)) →
    wpList P ol.toArray (fun ex a' w' => ex = .normal ∧ (∃ d v, o.dst = some d ∧ a' = putsL a [(d, v)] ∧ φ i v) ∧ w.grownBy w' none) [o] (putsL a []) w
def ObRk9 (P : Program) (ol : List Oper) (bigs : List Nat) (φ : Nat → Value → Prop) (G : List Nat → World → Prop) (a0 : Act) (N : Nat) : Nat → List Oper → Prop
  | _, [] => True
  | i, o :: r => (bigs.contains i = false → ObQ9 P ol bigs φ G a0 N i o) ∧ ObRk9 P ol bigs φ G a0 N (i + 1) r
theorem ObRk9.nil {i : Nat} : ObRk9 P ol bigs φ G a0 N i [] := trivial
theorem ObRk9.cons {i : Nat} {o : Oper} {r : List Oper} (h : ObQ9 P ol bigs φ G a0 N i o) (h' : ObRk9 P ol bigs φ G a0 N (i + 1) r) : ObRk9 P ol bigs φ G a0 N i (o :: r) := ⟨fun _ => h, h'⟩
theorem ObRk9.pass {i : Nat} {o : Oper} {r : List Oper} (hh : bigs.contains i = true) (h' : ObRk9 P ol bigs φ G a0 N (i + 1) r) : ObRk9 P ol bigs φ G a0 N i (o :: r) := ⟨fun h => absurd (hh.symm.trans h) (by decide), h'⟩
theorem ObRk9.getx : ∀ {l : List Oper} {i : Nat}, ObRk9 P ol bigs φ G a0 N i l → ∀ j o, l[j]? = some o → bigs.contains (i + j) = false → ObQ9 P ol bigs φ G a0 N (i + j) o
  | [], _, _, j, o, h, _ => by simp at h
  | o' :: r, i, h, 0, o, hj, hs => by simp at hj; subst hj; exact h.1 hs
  | o' :: r, i, h, j + 1, o, hj, hs => by
    have := ObRk9.getx h.2 j o (by simpa using hj) (by rwa [show i + 1 + j = i + (j + 1) by omega])
    rwa [show i + 1 + j = i + (j + 1) by omega] at this
end
end Go.Gx

namespace Go.Gx
open Go.RowKit
section
variable {P : Program} {Q : Exit → Act → World → Prop} {a : Act} {w w' : World} {l : List (Nat × Value)} {ops : Array Oper} {rest : List Oper}
variable {d ty t e xt yt : Nat} {p : String} {af : Array Edge} {x y : Operand} {v : Value} {k : IntKind} {n base sz by_ b off : Nat} {cs ws : List Value} {zv : Value} {r : Int}
def CapIs (v : Value) (c : Nat) : Prop := v = .slice none 0 0 ∧ c = 0 ∨ ∃ g n, v = .slice (some g) n c
theorem Own.cap (O : Own w base e sz v n cs) : ∃ c, n ≤ c ∧ c ≤ 9223372036854775807 ∧ CapIs v c := by
  obtain ⟨c, h1, h2, h3⟩ := O.capOf
  exact ⟨c, h1, h2, h3⟩
theorem CapIs.hi {c m : Nat} (h : CapIs v c) (hm : v = .slice none 0 0 → m = 0) : CapIs (hiV v m) c := by
  rcases h with ⟨rfl, rfl⟩ | ⟨g, n0, rfl⟩
  · have := hm rfl; subst this; exact .inl ⟨rfl, rfl⟩
  · exact .inr ⟨g, m, rfl⟩
theorem Own.wide (O : Own w base e sz v n cs) {c m : Nat} (hc : CapIs v c) (hnm : n ≤ m) (hm : m ≤ c) : ∃ sp, Own w base e sz (hiV v m) m (cs ++ sp) := by
  obtain ⟨hl, ⟨rfl, rfl⟩ | ⟨g, off, cap, cur, fr, rfl, hb, hg, hf, hnc, hcm, hfit, htk⟩⟩ := O
  · rcases hc with ⟨_, rfl⟩ | ⟨g, n0, hv⟩
    · have : m = 0 := by omega
      subst this
      have : cs = [] := List.eq_nil_of_length_eq_zero (by simpa using hl)
      subst this
      exact ⟨[], Own.nil _ _ _ _⟩
    · cases hv
  · rcases hc with ⟨hv, _⟩ | ⟨g2, n0, hv⟩
    · cases hv
    · injection hv with e1 e2 e3
      subst e3
      have hmm : m * sz ≤ cap * sz := Nat.mul_le_mul_right _ hm
      have hnn : n * sz ≤ m * sz := Nat.mul_le_mul_right _ hnm
      have hdl : (cur.toList.drop off).length = cur.size - off := by simp
      refine ⟨((cur.toList.drop off).take (m * sz)).drop (n * sz), ?_⟩
      have key : cs ++ ((cur.toList.drop off).take (m * sz)).drop (n * sz) = (cur.toList.drop off).take (m * sz) := by
        conv => rhs; rw [← List.take_append_drop (n * sz) ((cur.toList.drop off).take (m * sz))]
        rw [List.take_take, Nat.min_eq_left hnn, htk]
      rw [key]
      exact ⟨by rw [List.length_take, hdl]; omega, .inr ⟨g, off, cap, cur, fr, rfl, hb, hg, hf, hm, hcm, hfit, rfl⟩⟩
end
end Go.Gx

namespace Go.Gx
open Go.RowKit
section
variable {P : Program} {Q : Exit → Act → World → Prop} {a : Act} {w w' : World} {l : List (Nat × Value)} {ops : Array Oper} {rest : List Oper}
variable {d ty t e tx xt yt : Nat} {p : String} {af : Array Edge} {x y : Operand} {v xv : Value} {k : IntKind} {n m i c base sz by_ b off : Nat} {cs ws news : List Value} {zv : Value} {r : Int}
theorem Bx.shape {cs : List Value} (h : Bx w b t cs) : w.shape? b = some (t, cs.length) := by
  have h' : w.heap[b]? = some (.cells cs.toArray t (0, 0)) := h
  simp [World.shape?, h']
end
end Go.Gx

namespace Go.Gx
open Go.RowKit
section
variable {w : World} {base e sz n k i : Nat} {v : Value} {cs xs sp zs : List Value}
end
section
variable {P : Program} {Q : Exit → Act → World → Prop} {a : Act} {w w' : World} {l : List (Nat × Value)} {ops : Array Oper} {rest : List Oper} {d ty : Nat} {p : String} {af : Array Edge} {x y : Operand} {vx vy u : Value}
end
end Go.Gx

namespace Go.Gx
open Go.RowKit
section
variable {P : Program} {w : World} {L B L2 B2 n m : Nat} {v u : Value} {la lb : List UInt8}
end
end Go.Gx

namespace Go.Gx
open Go.RowKit
section
variable {P : Program} {Q : Exit → Act → World → Prop} {a : Act} {w w' w9 : World} {l : List (Nat × Value)} {ops : Array Oper} {rest : List Oper}
variable {d ty t e xt yt tx i : Nat} {p : String} {af : Array Edge} {x y : Operand} {v : Value} {k : IntKind} {n base sz by_ b o : Nat} {cs ws : List Value} {zv : Value} {r : Int}
theorem Own.atV (O : Own w base e sz v n cs) (h1 : i < n) : ∃ b o, base ≤ b ∧ AtV v (i * sz) b o := by
  obtain ⟨hl, ⟨rfl, rfl⟩ | ⟨g, off, cap, cur, fr, rfl, hb, _⟩⟩ := O
  · omega
  · exact ⟨g, off + i * sz, hb, off, n, cap, rfl, rfl⟩
theorem RdC.atV {L B : Nat} (R : RdC w L B sz v n cs) (hp : 0 < sz) (h1 : i < n) : ∃ b o, AtV v (i * sz) b o := by
  obtain ⟨h0, a, c, hv, h2, h3, h4⟩ := R
  rcases h4 with h4 | ⟨b, off, ha, _⟩
  · rw [h4] at h0; have : 0 < n * sz := Nat.mul_pos (by omega) hp; simp at h0; omega
  · subst ha; exact ⟨b, off + i * sz, off, n, c, hv, rfl⟩
theorem RdC.cellAt {L B q : Nat} (R : RdC w L B sz v n cs) (hA : AtV v q b o) : ∀ j u, cs[q + j]? = some u → w.cell? ⟨b, o + j, none⟩ = some u := by
  intro j u hu
  obtain ⟨off', n', c', hv', rfl⟩ := hA
  obtain ⟨h0, a, c, hv, h2, h3, h4⟩ := R
  rcases h4 with h4 | ⟨b2, off, ha, _, _, hc⟩
  · rw [h4] at hu; simp at hu
  · subst ha
    rw [hv] at hv'
    injection hv' with e1 e2 e3; injection e1 with e1; injection e1 with e1 e4; subst e1; subst e4
    have := hc (q + j) u hu
    rw [← Nat.add_assoc] at this
    exact this
theorem op_index_atR {L B : Nat} (T : SlT P xt e zv sz by_) (hx : (putsL a l).eval x = v) (R : RdC w9 L B sz v n cs) (hp : 0 < sz) (hy : (putsL a l).eval y = .int k r) (hr : r = (i : Int)) (h1 : i < n) (hA : AtV v (i * sz) b o)
    (h : wpList P ops Q rest (putsL a ((d, ptr b o) :: l)) w) : wpList P ops Q (⟨some d, .indexAddr xt x y, ty, p, af, none⟩ :: rest) (putsL a l) w := by
  obtain ⟨inf, hi, hz0, hz1, hz2⟩ := info_parts T.info
  subst hr
  obtain ⟨h0, a', c, hv, h2, h3, h4⟩ := R
  rcases h4 with h4 | ⟨b2, off, ha, _, _, hc⟩
  · rw [h4] at h0; have : 0 < n * sz := Nat.mul_pos (by omega) hp; simp at h0; omega
  · subst ha; subst hv
    obtain ⟨off2, n2, c2, hv, rfl⟩ := hA
    injection hv with e1 e2 e3; injection e1 with e1; injection e1 with e1 e4; subst e1; subst e4
    refine op_gen (v := ptr b2 (off + i * sz)) rfl ?_ h
    have hand : (0 ≤ (i : Int) ∧ (i : Int) < (n : Int)) := by omega
    simp [execOp, hx, hy, Instr.indexAt, asIntOf, run_underlying T.und, sizeOf, typeInfo, hi, ptr, Addr.add_lit, hz1, h1]
end
end Go.Gx
namespace Go.Gx
open Go.RowKit
section
variable {P : Program} {Q : Exit → Act → World → Prop} {a : Act} {w : World} {l : List (Nat × Value)} {ops : Array Oper} {rest : List Oper} {d ty e xt yt sz by_ : Nat} {p : String} {af : Array Edge} {x y : Operand} {zv : Value}
end
end Go.Gx

namespace Go.Proofs.Ytdhpalioifjfbaa
open Go.Gx Go.RowKit
attribute [local irreducible] wpList wpStill Code.wp Calls

theorem zero55 : zeroT Try.prog 55 = some (.agg #[(.int .i64 0), (.int .i64 0), (.int .i64 0), (.int .i64 0), (.int .i64 0), (.int .i64 0), (.int .i64 0), (.int .i64 0), (.int .i64 0), (.int .i64 0), (.int .i64 0), (.int .i64 0), (.int .i64 0), (.int .i64 0), (.int .i64 0), (.int .i64 0), (.int .i64 0), (.int .i64 0), (.int .i64 0), (.int .i64 0), (.int .i64 0), (.int .i64 0), (.int .i64 0), (.int .i64 0), (.int .i64 0), (.int .i64 0), (.int .i64 0), (.int .i64 0), (.int .i64 0), (.int .i64 0), (.int .i64 0), (.int .i64 0), (.int .i64 0), (.int .i64 0), (.int .i64 0), (.int .i64 0), (.int .i64 0), (.int .i64 0), (.int .i64 0), (.int .i64 0), (.int .i64 0), (.int .i64 0), (.int .i64 0), (.int .i64 0), (.int .i64 0), (.int .i64 0), (.int .i64 0), (.int .i64 0), (.int .i64 0), (.int .i64 0), (.int .i64 0), (.int .i64 0), (.int .i64 0), (.int .i64 0), (.int .i64 0), (.int .i64 0), (.int .i64 0), (.int .i64 0), (.int .i64 0), (.int .i64 0), (.int .i64 0), (.int .i64 0), (.int .i64 0), (.int .i64 0), (.int .i64 0), (.int .i64 0), (.int .i64 0), (.int .i64 0), (.int .i64 0), (.int .i64 0), (.int .i64 0), (.int .i64 0), (.int .i64 0), (.int .i64 0), (.int .i64 0), (.int .i64 0), (.int .i64 0), (.int .i64 0), (.int .i64 0), (.int .i64 0), (.int .i64 0), (.int .i64 0), (.int .i64 0), (.int .i64 0), (.int .i64 0), (.int .i64 0), (.int .i64 0), (.int .i64 0), (.int .i64 0), (.int .i64 0), (.int .i64 0), (.int .i64 0), (.int .i64 0), (.int .i64 0), (.int .i64 0), (.int .i64 0), (.int .i64 0), (.int .i64 0), (.int .i64 0), (.int .i64 0), (.int .i64 0), (.int .i64 0), (.int .i64 0), (.int .i64 0), (.int .i64 0), (.int .i64 0), (.int .i64 0), (.int .i64 0), (.int .i64 0), (.int .i64 0), (.int .i64 0), (.int .i64 0), (.int .i64 0), (.int .i64 0), (.int .i64 0), (.int .i64 0), (.int .i64 0), (.int .i64 0), (.int .i64 0), (.int .i64 0), (.int .i64 0), (.int .i64 0), (.int .i64 0), (.int .i64 0), (.int .i64 0), (.int .i64 0), (.int .i64 0), (.int .i64 0), (.int .i64 0), (.int .i64 0), (.int .i64 0), (.int .i64 0), (.int .i64 0), (.int .i64 0), (.int .i64 0), (.int .i64 0), (.int .i64 0), (.int .i64 0), (.int .i64 0), (.int .i64 0), (.int .i64 0), (.int .i64 0), (.int .i64 0), (.int .i64 0), (.int .i64 0), (.int .i64 0), (.int .i64 0), (.int .i64 0), (.int .i64 0), (.int .i64 0), (.int .i64 0), (.int .i64 0), (.int .i64 0), (.int .i64 0), (.int .i64 0), (.int .i64 0), (.int .i64 0), (.int .i64 0), (.int .i64 0), (.int .i64 0), (.int .i64 0), (.int .i64 0), (.int .i64 0), (.int .i64 0), (.int .i64 0), (.int .i64 0), (.int .i64 0), (.int .i64 0), (.int .i64 0), (.int .i64 0), (.int .i64 0), (.int .i64 0), (.int .i64 0), (.int .i64 0), (.int .i64 0), (.int .i64 0), (.int .i64 0), (.int .i64 0), (.int .i64 0), (.int .i64 0), (.int .i64 0), (.int .i64 0), (.int .i64 0), (.int .i64 0), (.int .i64 0), (.int .i64 0), (.int .i64 0), (.int .i64 0), (.int .i64 0), (.int .i64 0), (.int .i64 0), (.int .i64 0), (.int .i64 0), (.int .i64 0), (.int .i64 0), (.int .i64 0), (.int .i64 0), (.int .i64 0), (.int .i64 0), (.int .i64 0), (.int .i64 0), (.int .i64 0), (.int .i64 0), (.int .i64 0), (.int .i64 0), (.int .i64 0), (.int .i64 0), (.int .i64 0), (.int .i64 0), (.int .i64 0), (.int .i64 0), (.int .i64 0), (.int .i64 0), (.int .i64 0), (.int .i64 0), (.int .i64 0), (.int .i64 0), (.int .i64 0), (.int .i64 0), (.int .i64 0), (.int .i64 0), (.int .i64 0), (.int .i64 0), (.int .i64 0), (.int .i64 0), (.int .i64 0), (.int .i64 0), (.int .i64 0), (.int .i64 0), (.int .i64 0), (.int .i64 0), (.int .i64 0), (.int .i64 0), (.int .i64 0), (.int .i64 0), (.int .i64 0), (.int .i64 0), (.int .i64 0), (.int .i64 0), (.int .i64 0), (.int .i64 0), (.int .i64 0), (.int .i64 0), (.int .i64 0), (.int .i64 0), (.int .i64 0), (.int .i64 0), (.int .i64 0), (.int .i64 0), (.int .i64 0), (.int .i64 0), (.int .i64 0), (.int .i64 0), (.int .i64 0), (.int .i64 0), (.int .i64 0)]) := by kernel_rfl

set_option maxRecDepth 100000 in
theorem row55 {w : World} {b : Nat} (h : Bx w b 55 [(.int .i64 0), (.int .i64 0), (.int .i64 0), (.int .i64 0), (.int .i64 0), (.int .i64 0), (.int .i64 0), (.int .i64 0), (.int .i64 0), (.int .i64 0), (.int .i64 0), (.int .i64 0), (.int .i64 0), (.int .i64 0), (.int .i64 0), (.int .i64 0), (.int .i64 0), (.int .i64 0), (.int .i64 0), (.int .i64 0), (.int .i64 0), (.int .i64 0), (.int .i64 0), (.int .i64 0), (.int .i64 0), (.int .i64 0), (.int .i64 0), (.int .i64 0), (.int .i64 0), (.int .i64 0), (.int .i64 0), (.int .i64 0), (.int .i64 0), (.int .i64 0), (.int .i64 0), (.int .i64 0), (.int .i64 0), (.int .i64 0), (.int .i64 0), (.int .i64 0), (.int .i64 0), (.int .i64 0), (.int .i64 0), (.int .i64 0), (.int .i64 0), (.int .i64 0), (.int .i64 0), (.int .i64 0), (.int .i64 0), (.int .i64 0), (.int .i64 0), (.int .i64 0), (.int .i64 0), (.int .i64 0), (.int .i64 0), (.int .i64 0), (.int .i64 0), (.int .i64 0), (.int .i64 0), (.int .i64 0), (.int .i64 0), (.int .i64 0), (.int .i64 0), (.int .i64 0), (.int .i64 0), (.int .i64 0), (.int .i64 0), (.int .i64 0), (.int .i64 0), (.int .i64 0), (.int .i64 0), (.int .i64 0), (.int .i64 0), (.int .i64 0), (.int .i64 0), (.int .i64 0), (.int .i64 0), (.int .i64 0), (.int .i64 0), (.int .i64 0), (.int .i64 0), (.int .i64 0), (.int .i64 0), (.int .i64 0), (.int .i64 0), (.int .i64 0), (.int .i64 0), (.int .i64 0), (.int .i64 0), (.int .i64 0), (.int .i64 0), (.int .i64 0), (.int .i64 0), (.int .i64 0), (.int .i64 0), (.int .i64 0), (.int .i64 0), (.int .i64 0), (.int .i64 0), (.int .i64 0), (.int .i64 0), (.int .i64 0), (.int .i64 0), (.int .i64 0), (.int .i64 0), (.int .i64 0), (.int .i64 0), (.int .i64 0), (.int .i64 0), (.int .i64 0), (.int .i64 0), (.int .i64 0), (.int .i64 0), (.int .i64 0), (.int .i64 0), (.int .i64 0), (.int .i64 0), (.int .i64 0), (.int .i64 0), (.int .i64 0), (.int .i64 0), (.int .i64 0), (.int .i64 0), (.int .i64 0), (.int .i64 0), (.int .i64 0), (.int .i64 0), (.int .i64 0), (.int .i64 0), (.int .i64 0), (.int .i64 0), (.int .i64 0), (.int .i64 0), (.int .i64 0), (.int .i64 0), (.int .i64 0), (.int .i64 0), (.int .i64 0), (.int .i64 0), (.int .i64 0), (.int .i64 0), (.int .i64 0), (.int .i64 0), (.int .i64 0), (.int .i64 0), (.int .i64 0), (.int .i64 0), (.int .i64 0), (.int .i64 0), (.int .i64 0), (.int .i64 0), (.int .i64 0), (.int .i64 0), (.int .i64 0), (.int .i64 0), (.int .i64 0), (.int .i64 0), (.int .i64 0), (.int .i64 0), (.int .i64 0), (.int .i64 0), (.int .i64 0), (.int .i64 0), (.int .i64 0), (.int .i64 0), (.int .i64 0), (.int .i64 0), (.int .i64 0), (.int .i64 0), (.int .i64 0), (.int .i64 0), (.int .i64 0), (.int .i64 0), (.int .i64 0), (.int .i64 0), (.int .i64 0), (.int .i64 0), (.int .i64 0), (.int .i64 0), (.int .i64 0), (.int .i64 0), (.int .i64 0), (.int .i64 0), (.int .i64 0), (.int .i64 0), (.int .i64 0), (.int .i64 0), (.int .i64 0), (.int .i64 0), (.int .i64 0), (.int .i64 0), (.int .i64 0), (.int .i64 0), (.int .i64 0), (.int .i64 0), (.int .i64 0), (.int .i64 0), (.int .i64 0), (.int .i64 0), (.int .i64 0), (.int .i64 0), (.int .i64 0), (.int .i64 0), (.int .i64 0), (.int .i64 0), (.int .i64 0), (.int .i64 0), (.int .i64 0), (.int .i64 0), (.int .i64 0), (.int .i64 0), (.int .i64 0), (.int .i64 0), (.int .i64 0), (.int .i64 0), (.int .i64 0), (.int .i64 0), (.int .i64 0), (.int .i64 0), (.int .i64 0), (.int .i64 0), (.int .i64 0), (.int .i64 0), (.int .i64 0), (.int .i64 0), (.int .i64 0), (.int .i64 0), (.int .i64 0), (.int .i64 0), (.int .i64 0), (.int .i64 0), (.int .i64 0), (.int .i64 0), (.int .i64 0), (.int .i64 0), (.int .i64 0), (.int .i64 0), (.int .i64 0), (.int .i64 0), (.int .i64 0), (.int .i64 0), (.int .i64 0), (.int .i64 0), (.int .i64 0), (.int .i64 0), (.int .i64 0), (.int .i64 0), (.int .i64 0), (.int .i64 0), (.int .i64 0), (.int .i64 0), (.int .i64 0), (.int .i64 0), (.int .i64 0), (.int .i64 0), (.int .i64 0)]) : Bx w b 55 ((List.replicate 256 (0 : Int)).map (Value.int .i64)) := by
  have e : [(.int .i64 0), (.int .i64 0), (.int .i64 0), (.int .i64 0), (.int .i64 0), (.int .i64 0), (.int .i64 0), (.int .i64 0), (.int .i64 0), (.int .i64 0), (.int .i64 0), (.int .i64 0), (.int .i64 0), (.int .i64 0), (.int .i64 0), (.int .i64 0), (.int .i64 0), (.int .i64 0), (.int .i64 0), (.int .i64 0), (.int .i64 0), (.int .i64 0), (.int .i64 0), (.int .i64 0), (.int .i64 0), (.int .i64 0), (.int .i64 0), (.int .i64 0), (.int .i64 0), (.int .i64 0), (.int .i64 0), (.int .i64 0), (.int .i64 0), (.int .i64 0), (.int .i64 0), (.int .i64 0), (.int .i64 0), (.int .i64 0), (.int .i64 0), (.int .i64 0), (.int .i64 0), (.int .i64 0), (.int .i64 0), (.int .i64 0), (.int .i64 0), (.int .i64 0), (.int .i64 0), (.int .i64 0), (.int .i64 0), (.int .i64 0), (.int .i64 0), (.int .i64 0), (.int .i64 0), (.int .i64 0), (.int .i64 0), (.int .i64 0), (.int .i64 0), (.int .i64 0), (.int .i64 0), (.int .i64 0), (.int .i64 0), (.int .i64 0), (.int .i64 0), (.int .i64 0), (.int .i64 0), (.int .i64 0), (.int .i64 0), (.int .i64 0), (.int .i64 0), (.int .i64 0), (.int .i64 0), (.int .i64 0), (.int .i64 0), (.int .i64 0), (.int .i64 0), (.int .i64 0), (.int .i64 0), (.int .i64 0), (.int .i64 0), (.int .i64 0), (.int .i64 0), (.int .i64 0), (.int .i64 0), (.int .i64 0), (.int .i64 0), (.int .i64 0), (.int .i64 0), (.int .i64 0), (.int .i64 0), (.int .i64 0), (.int .i64 0), (.int .i64 0), (.int .i64 0), (.int .i64 0), (.int .i64 0), (.int .i64 0), (.int .i64 0), (.int .i64 0), (.int .i64 0), (.int .i64 0), (.int .i64 0), (.int .i64 0), (.int .i64 0), (.int .i64 0), (.int .i64 0), (.int .i64 0), (.int .i64 0), (.int .i64 0), (.int .i64 0), (.int .i64 0), (.int .i64 0), (.int .i64 0), (.int .i64 0), (.int .i64 0), (.int .i64 0), (.int .i64 0), (.int .i64 0), (.int .i64 0), (.int .i64 0), (.int .i64 0), (.int .i64 0), (.int .i64 0), (.int .i64 0), (.int .i64 0), (.int .i64 0), (.int .i64 0), (.int .i64 0), (.int .i64 0), (.int .i64 0), (.int .i64 0), (.int .i64 0), (.int .i64 0), (.int .i64 0), (.int .i64 0), (.int .i64 0), (.int .i64 0), (.int .i64 0), (.int .i64 0), (.int .i64 0), (.int .i64 0), (.int .i64 0), (.int .i64 0), (.int .i64 0), (.int .i64 0), (.int .i64 0), (.int .i64 0), (.int .i64 0), (.int .i64 0), (.int .i64 0), (.int .i64 0), (.int .i64 0), (.int .i64 0), (.int .i64 0), (.int .i64 0), (.int .i64 0), (.int .i64 0), (.int .i64 0), (.int .i64 0), (.int .i64 0), (.int .i64 0), (.int .i64 0), (.int .i64 0), (.int .i64 0), (.int .i64 0), (.int .i64 0), (.int .i64 0), (.int .i64 0), (.int .i64 0), (.int .i64 0), (.int .i64 0), (.int .i64 0), (.int .i64 0), (.int .i64 0), (.int .i64 0), (.int .i64 0), (.int .i64 0), (.int .i64 0), (.int .i64 0), (.int .i64 0), (.int .i64 0), (.int .i64 0), (.int .i64 0), (.int .i64 0), (.int .i64 0), (.int .i64 0), (.int .i64 0), (.int .i64 0), (.int .i64 0), (.int .i64 0), (.int .i64 0), (.int .i64 0), (.int .i64 0), (.int .i64 0), (.int .i64 0), (.int .i64 0), (.int .i64 0), (.int .i64 0), (.int .i64 0), (.int .i64 0), (.int .i64 0), (.int .i64 0), (.int .i64 0), (.int .i64 0), (.int .i64 0), (.int .i64 0), (.int .i64 0), (.int .i64 0), (.int .i64 0), (.int .i64 0), (.int .i64 0), (.int .i64 0), (.int .i64 0), (.int .i64 0), (.int .i64 0), (.int .i64 0), (.int .i64 0), (.int .i64 0), (.int .i64 0), (.int .i64 0), (.int .i64 0), (.int .i64 0), (.int .i64 0), (.int .i64 0), (.int .i64 0), (.int .i64 0), (.int .i64 0), (.int .i64 0), (.int .i64 0), (.int .i64 0), (.int .i64 0), (.int .i64 0), (.int .i64 0), (.int .i64 0), (.int .i64 0), (.int .i64 0), (.int .i64 0), (.int .i64 0), (.int .i64 0), (.int .i64 0), (.int .i64 0), (.int .i64 0), (.int .i64 0), (.int .i64 0), (.int .i64 0), (.int .i64 0), (.int .i64 0), (.int .i64 0), (.int .i64 0), (.int .i64 0), (.int .i64 0), (.int .i64 0), (.int .i64 0), (.int .i64 0), (.int .i64 0), (.int .i64 0), (.int .i64 0)] = (List.replicate 256 (0 : Int)).map (Value.int .i64) := by kernel_rfl
  rw [← e]; exact h

set_option maxHeartbeats 2000000 in
theorem HeapKeeps_ret (I S D : By) (vi vs vd : Value) (w : World) (hli : I.length ≤ 9223372036854775807) (hls : S.length ≤ 9223372036854775807) (hld : D.length ≤ 9223372036854775807) (hri : RdC w 0 w.heap.size 1 vi I.length (I.map u8v)) (hrs : RdC w 0 w.heap.size 1 vs S.length (S.map u8v)) (hrd : RdC w 0 w.heap.size 1 vd D.length (D.map u8v)) : Ret Try.prog 6 #[vi, vs, vd] w (fun v' w' => Below w.heap.size w w' ∧ v' = .bool true) := by
 have hb_i := Nat.zero_le I.length
 have hb := Below.refl w.heap.size w
 refine enter (N := 152) Try.func6 rfl rfl (by simp) fun a hN hd hA => ?_
 have c : a.tmps.getD 0 undef = vi := hA 0 (by simp)
 have e : a.tmps.getD 1 undef = vs := hA 1 (by simp)
 have f : a.tmps.getD 2 undef = vd := hA 2 (by simp)
 clear hA
 refine zF fun _ a => zH ?_
 refine zD rfl (zB (a _ _ (zF fun _ a => zF fun _ g => zH (zj ok26 (begun14_ret _) trivial ?_))))
 rintro _ o ⟨m, rfl⟩
 have m := zQ m
 obtain ⟨hb, _⟩ := yE hb m
 refine op_not (zA hN rfl) (zB (g _ _ (wp_cond_false (zA hN rfl) (wp_skip (a _ _ (zF fun _ a => zF fun _ g => zH (zG (zC hN rfl c) ?_)))))))
 have hri' := hri.keep0 (zQ hb)
 refine op_len_rd Try.underlying22 (zA hN rfl) hri' (op_gtr (zA hN rfl) rfl (fun m => ?_) (fun m => ?_))
 ·
  refine zG (zA hN rfl) (zR (j := 3) (dj := 22) (b := false) rfl rfl rfl (zA hN rfl) rfl rfl (zR (j := 3) (dj := 22) (b := false) rfl rfl rfl (zA hN rfl) rfl rfl (zR (j := 3) (dj := 22) (b := false) rfl rfl rfl (zA hN rfl) rfl rfl (zc (zA hN rfl) rfl (zG (zA hN rfl) (zR (j := 8) (dj := 27) (b := false) rfl rfl rfl (zA hN rfl) rfl rfl ?_))))))
  refine zR (j := 8) (dj := 27) (b := false) rfl rfl rfl (zA hN rfl) rfl rfl (zR (j := 8) (dj := 27) (b := false) rfl rfl rfl (zA hN rfl) rfl rfl (zc (zA hN rfl) rfl (zB (g _ _ (wp_cond_true (zA hN rfl) (zF fun _ g => zH (zD rfl (zB (g _ _ (wp_ret (zO ( (ret1 rfl hd (zA hN rfl) ⟨_, rfl, ?_⟩)))))))))))))
  exact ⟨hb, rfl⟩
 refine zG (zA hN rfl) (zS (j := 3) (dj := 22) (b := false) rfl rfl rfl (zA hN rfl) (zG (zC hN rfl e) (zS (j := 3) (dj := 22) (b := false) rfl rfl rfl (zA hN rfl) ?_)))
 have hrs' := hrs.keep0 (zQ hb)
 refine op_len_rd Try.underlying22 (zA hN rfl) hrs' (zS (j := 3) (dj := 22) (b := false) rfl rfl rfl (zA hN rfl) (op_gtr (zA hN rfl) rfl (fun m => ?_) (fun m => ?_)))
 ·
  refine zd (zA hN rfl) (zA hN rfl) (zG (zA hN rfl) (zR (j := 8) (dj := 27) (b := false) rfl rfl rfl (zA hN rfl) rfl rfl ?_))
  refine zR (j := 8) (dj := 27) (b := false) rfl rfl rfl (zA hN rfl) rfl rfl (zR (j := 8) (dj := 27) (b := false) rfl rfl rfl (zA hN rfl) rfl rfl (zc (zA hN rfl) rfl (zB (g _ _ (wp_cond_true (zA hN rfl) (zF fun _ g => zH (zD rfl (zB (g _ _ (wp_ret (zO ( (ret1 rfl hd (zA hN rfl) ⟨_, rfl, ?_⟩)))))))))))))
  exact ⟨hb, rfl⟩
 refine zd (zA hN rfl) (zA hN rfl) (zG (zA hN rfl) (zS (j := 8) (dj := 27) (b := false) rfl rfl rfl (zA hN rfl) (zG (zC hN rfl f) (zS (j := 8) (dj := 27) (b := false) rfl rfl rfl (zA hN rfl) ?_))))
 have hrd' := hrd.keep0 (zQ hb)
 refine op_len_rd Try.underlying22 (zA hN rfl) hrd' (zS (j := 8) (dj := 27) (b := false) rfl rfl rfl (zA hN rfl) (op_gtr (zA hN rfl) rfl (fun m => ?_) (fun m => ?_)))
 ·
  refine zd (zA hN rfl) (zA hN rfl) (zB (g _ _ (wp_cond_true (zA hN rfl) (zF fun _ g => zH (zD rfl (zB (g _ _ (wp_ret (zO ( (ret1 rfl hd (zA hN rfl) ⟨_, rfl, ?_⟩)))))))))))
  exact ⟨hb, rfl⟩
 refine zd (zA hN rfl) (zA hN rfl) (zB (g _ _ (wp_cond_false (zA hN rfl) (wp_skip (a _ _ (zF fun _ a => zH (ze (vs := []) ok27 trivial (hNew_ret _) ?_)))))))
 rintro _ u ⟨s, m, t, rfl, p⟩
 have y : ∀ x, t x → o.heap.size ≤ x := fun x hx => (p.lt x hx).1
 have s := zQ s
 obtain ⟨hb, _⟩ := yE hb s
 have p : HeapR u w.heap.size m ([] : List (Int × By)) 0 t := p.mono zx
 refine zD (zA hN rfl) (zB (a _ _ (zF fun _ a => zH ?_)))
 refine op_alloc (cs := [(.int .i64 0), (.int .i64 0), (.int .i64 0), (.int .i64 0), (.int .i64 0), (.int .i64 0), (.int .i64 0), (.int .i64 0), (.int .i64 0), (.int .i64 0), (.int .i64 0), (.int .i64 0), (.int .i64 0), (.int .i64 0), (.int .i64 0), (.int .i64 0), (.int .i64 0), (.int .i64 0), (.int .i64 0), (.int .i64 0), (.int .i64 0), (.int .i64 0), (.int .i64 0), (.int .i64 0), (.int .i64 0), (.int .i64 0), (.int .i64 0), (.int .i64 0), (.int .i64 0), (.int .i64 0), (.int .i64 0), (.int .i64 0), (.int .i64 0), (.int .i64 0), (.int .i64 0), (.int .i64 0), (.int .i64 0), (.int .i64 0), (.int .i64 0), (.int .i64 0), (.int .i64 0), (.int .i64 0), (.int .i64 0), (.int .i64 0), (.int .i64 0), (.int .i64 0), (.int .i64 0), (.int .i64 0), (.int .i64 0), (.int .i64 0), (.int .i64 0), (.int .i64 0), (.int .i64 0), (.int .i64 0), (.int .i64 0), (.int .i64 0), (.int .i64 0), (.int .i64 0), (.int .i64 0), (.int .i64 0), (.int .i64 0), (.int .i64 0), (.int .i64 0), (.int .i64 0), (.int .i64 0), (.int .i64 0), (.int .i64 0), (.int .i64 0), (.int .i64 0), (.int .i64 0), (.int .i64 0), (.int .i64 0), (.int .i64 0), (.int .i64 0), (.int .i64 0), (.int .i64 0), (.int .i64 0), (.int .i64 0), (.int .i64 0), (.int .i64 0), (.int .i64 0), (.int .i64 0), (.int .i64 0), (.int .i64 0), (.int .i64 0), (.int .i64 0), (.int .i64 0), (.int .i64 0), (.int .i64 0), (.int .i64 0), (.int .i64 0), (.int .i64 0), (.int .i64 0), (.int .i64 0), (.int .i64 0), (.int .i64 0), (.int .i64 0), (.int .i64 0), (.int .i64 0), (.int .i64 0), (.int .i64 0), (.int .i64 0), (.int .i64 0), (.int .i64 0), (.int .i64 0), (.int .i64 0), (.int .i64 0), (.int .i64 0), (.int .i64 0), (.int .i64 0), (.int .i64 0), (.int .i64 0), (.int .i64 0), (.int .i64 0), (.int .i64 0), (.int .i64 0), (.int .i64 0), (.int .i64 0), (.int .i64 0), (.int .i64 0), (.int .i64 0), (.int .i64 0), (.int .i64 0), (.int .i64 0), (.int .i64 0), (.int .i64 0), (.int .i64 0), (.int .i64 0), (.int .i64 0), (.int .i64 0), (.int .i64 0), (.int .i64 0), (.int .i64 0), (.int .i64 0), (.int .i64 0), (.int .i64 0), (.int .i64 0), (.int .i64 0), (.int .i64 0), (.int .i64 0), (.int .i64 0), (.int .i64 0), (.int .i64 0), (.int .i64 0), (.int .i64 0), (.int .i64 0), (.int .i64 0), (.int .i64 0), (.int .i64 0), (.int .i64 0), (.int .i64 0), (.int .i64 0), (.int .i64 0), (.int .i64 0), (.int .i64 0), (.int .i64 0), (.int .i64 0), (.int .i64 0), (.int .i64 0), (.int .i64 0), (.int .i64 0), (.int .i64 0), (.int .i64 0), (.int .i64 0), (.int .i64 0), (.int .i64 0), (.int .i64 0), (.int .i64 0), (.int .i64 0), (.int .i64 0), (.int .i64 0), (.int .i64 0), (.int .i64 0), (.int .i64 0), (.int .i64 0), (.int .i64 0), (.int .i64 0), (.int .i64 0), (.int .i64 0), (.int .i64 0), (.int .i64 0), (.int .i64 0), (.int .i64 0), (.int .i64 0), (.int .i64 0), (.int .i64 0), (.int .i64 0), (.int .i64 0), (.int .i64 0), (.int .i64 0), (.int .i64 0), (.int .i64 0), (.int .i64 0), (.int .i64 0), (.int .i64 0), (.int .i64 0), (.int .i64 0), (.int .i64 0), (.int .i64 0), (.int .i64 0), (.int .i64 0), (.int .i64 0), (.int .i64 0), (.int .i64 0), (.int .i64 0), (.int .i64 0), (.int .i64 0), (.int .i64 0), (.int .i64 0), (.int .i64 0), (.int .i64 0), (.int .i64 0), (.int .i64 0), (.int .i64 0), (.int .i64 0), (.int .i64 0), (.int .i64 0), (.int .i64 0), (.int .i64 0), (.int .i64 0), (.int .i64 0), (.int .i64 0), (.int .i64 0), (.int .i64 0), (.int .i64 0), (.int .i64 0), (.int .i64 0), (.int .i64 0), (.int .i64 0), (.int .i64 0), (.int .i64 0), (.int .i64 0), (.int .i64 0), (.int .i64 0), (.int .i64 0), (.int .i64 0), (.int .i64 0), (.int .i64 0), (.int .i64 0), (.int .i64 0), (.int .i64 0), (.int .i64 0), (.int .i64 0), (.int .i64 0), (.int .i64 0), (.int .i64 0), (.int .i64 0), (.int .i64 0), (.int .i64 0), (.int .i64 0), (.int .i64 0), (.int .i64 0), (.int .i64 0), (.int .i64 0), (.int .i64 0), (.int .i64 0)]) zero55 rfl ?_
 intro y s B C z u
 obtain ⟨hb, _⟩ := yE hb u
 have p := p.kz u
 refine zB (a _ _ (zF fun _ a => zF fun _ g => zH (zD rfl (zB (g _ _ (wp_block (loop_m (fun mz_ az_ w' => ∃ (i : Nat) (R : List (Int × By)) (A : List Int) (FK : Nat → Prop), mz_ = I.length - i ∧ (Sl az_ 0 vi) ∧ (Sl az_ 1 vs) ∧ (Sl az_ 2 vd) ∧ (Sl az_ 7 (ptr m 0)) ∧ (Sl az_ 8 (ptr s 0)) ∧ (Sl az_ 9 (.int .i64 ((i : Nat) : Int))) ∧ (i ≤ I.length) ∧ (KInv R A) ∧ (Below w.heap.size w w') ∧ (y.heap.size ≤ w'.heap.size) ∧ (HeapR w' w.heap.size m R i FK) ∧ (Bx w' s 55 ((A.map (Value.int .i64))))) _ hN hd ⟨0, [], (List.replicate 256 0), t, rfl, (zL hN rfl c), (zL hN rfl e), (zL hN rfl f), (zU hN rfl), (zU hN rfl), (zU hN rfl), (Nat.zero_le _), KInv.start, hb, (Nat.le_refl _), p, (row55 z)⟩ ?_)))))))
 rintro _ C B c y ⟨i, R, A, FK, rfl, z, f, p, u, t, e, hi, hK, hb, F, hL, hAr⟩
 have := hb.size
 refine zF fun _ g => zF fun _ C => zH (zG (zC c rfl e) (zG (zC c rfl z) ?_))
 have hri' := hri.keep0 (zQ hb)
 refine op_len_rd Try.underlying22 (zA c rfl) hri' (op_lss (zA c rfl) (zA c rfl) (fun F => ?_) (fun F => ?_))
 ·
  refine zB (C _ _ (wp_cond_true (zA c rfl) (wp_skip (g _ _ (zF fun _ g => wp_block (zF fun _ C => zH (zD rfl (zB (C _ _ (seq_join1 (N := 152) (fun az_ w' => ∃ (F : Nat), (Sl az_ 0 vi) ∧ (Sl az_ 1 vs) ∧ (Sl az_ 2 vd) ∧ (Sl az_ 7 (ptr m 0)) ∧ (Sl az_ 8 (ptr s 0)) ∧ (Sl az_ 9 (.int .i64 ((i : Nat) : Int))) ∧ (Sl az_ 10 (.int .i64 ((F : Nat) : Int))) ∧ (1 ≤ F ∧ F ≤ 200) ∧ (Below w.heap.size w w') ∧ (B.heap.size ≤ w'.heap.size) ∧ (HeapR w' w.heap.size m R i FK) ∧ (Bx w' s 55 ((A.map (Value.int .i64))))) (fun H => ?_) ?_))))))))))
  ·
   refine zF fun _ C => zF fun _ J => zH (zG (zC c rfl e) (zG (zC c rfl f) ?_))
   have hrs' := hrs.keep0 (zQ hb)
   refine op_len_rd Try.underlying22 (zA c rfl) hrs' (op_lss (zA c rfl) (zA c rfl) (fun K => ?_) (fun K => ?_))
   ·
    refine zB (J _ _ (wp_cond_true (zA c rfl) (zH (zG (zC c rfl f) (zG (zC c rfl e) (zh slt22 (zA c rfl) hrs' (zA c rfl) zx zx ?_))))))
    intro O P L M K
    refine zN (v := (Value.int .u8 ((S.getD i 0).toNat : Int))) one5 (zA c rfl) (by have := K 0 (.int .u8 ((S.getD i 0).toNat : Int)) zz (el_u8 (i := i) zx zx); simpa using this) (op_conv (r := ((S.getD i 0).toNat : Int)) (zA c rfl) us5 Try.underlying3 (wrap_i64 (by have := ((S.getD i 0)).toNat_lt; omega)) (op_rem (r := (((S.getD i 0).toNat % 200 : Nat) : Int)) (zA c rfl) rfl zz (tmod_nat (b := 200)) (op_add (r := ((1 + (S.getD i 0).toNat % 200 : Nat) : Int)) rfl (zA c rfl) ((add64 zx).trans zx) (zD (zA c rfl) (zB (C _ _ ?_))))))
    exact H _ _ _ c y ⟨(1 + (S.getD i 0).toNat % 200), (zL c rfl z), (zL c rfl f), (zL c rfl p), (zL c rfl u), (zL c rfl t), (zL c rfl e), (zU c rfl), zx, hb, zx, hL, hAr⟩
   refine zB (J _ _ (wp_cond_false (zA c rfl) (wp_skip (C _ _ ?_))))
   exact H _ _ _ c y ⟨1, (zL c rfl z), (zL c rfl f), (zL c rfl p), (zL c rfl u), (zL c rfl t), (zL c rfl e), (zU c rfl), zx, hb, zx, hL, hAr⟩
  rintro Q U e M ⟨F, z, P, O, K, H, f, L, T, hb, V, hL, hAr⟩
  have := hb.size
  refine zF fun _ C => zH (zG (zC e rfl L) (op_make (n := F) (y' := .const undef) slt22 (zA e rfl) (zA e rfl) rfl zx zx hb.size ?_))
  intro L V Q T U
  have W : Dj (Bl L) FK := fun k hk hg => by have q1 := U k hk; have q2 := (hL.lt k hg).2; omega
  obtain ⟨hb, _⟩ := yE hb T
  have Q : Own V w.heap.size 5 1 L F (((List.replicate F 0 : By)).map u8v) := by exact Q.cast rfl (zeros_u8 _)
  refine zD (zA e rfl) (zB (C _ _ (zF fun _ C => zH (zG (zA e rfl) (zG (zC e rfl f) (op_conv (r := ((UInt8.ofNat i).toNat : Int)) (zA e rfl) us3 Try.underlying5 conv_u8 (op_index_own (i := 0) slt22 (zA e rfl) Q rfl zx zx ?_)))))))
  intro V X Y U
  have U : AtV L (0) V X := by simpa using U
  have V := Q
  refine op_store_own (vs := [(.int .u8 ((UInt8.ofNat i).toNat : Int))]) size5 (zA e rfl) (zA e rfl) rfl rfl rfl V U (by simp; omega) ?_
  intro X U Q
  have := Q.size
  have hL := (hL.kz T).keepG (Gr.of Q) W.symm
  have hAr := (hAr.keep0 T).keepO V Q zz
  have hb := below_stepO hb V Q hb.size zx
  have U : Own X w.heap.size 5 1 L F ((((List.replicate F 0 : By).set 0 (UInt8.ofNat i))).map u8v) := by exact U.cast rfl (set_u8 (by simp; omega))
  refine zB (C _ _ (zF fun _ C => zF fun _ J => zH ?_))
  have hIt := (I.getD i 0).toNat_lt
  have hAl := hK.len
  refine zG (zC e rfl K) (zG (zC e rfl z) (zG (zC e rfl f) ?_))
  have hri' := hri.keep0 (zQ hb)
  refine zh slt22 (zA e rfl) hri' (zA e rfl) zx zx ?_
  intro T X Y V Q
  refine zN (v := (Value.int .u8 ((I.getD i 0).toNat : Int))) one5 (zA e rfl) (by have := Q 0 (.int .u8 ((I.getD i 0).toNat : Int)) zz (el_u8 (i := i) zx zx); simpa using this) (op_conv (r := (((I.getD i 0).toNat : Nat) : Int)) (zA e rfl) us5 Try.underlying57 (wrap_u64 zx) (zG (zA e rfl) ?_))
  obtain ⟨X, Y, Q, V, T⟩ := U.rdx
  have X : (((List.replicate F 0 : By).set 0 (UInt8.ofNat i)) : By).length = F := by first | rfl | assumption | omega | simp
  have Q := Q.cast X.symm rfl
  refine ze (vs := [(ptr m 0), (.int .u64 (((I.getD i 0).toNat : Nat) : Int)), L]) ok28 ⟨(zA e rfl), ⟨(zA e rfl), ⟨(zA e rfl), trivial⟩⟩⟩ (hPut_good (r := ((List.replicate F 0 : By).set 0 (UInt8.ofNat i))) (((I.getD i 0).toNat : Nat) : Int) (badB_f ⟨by rw [List.length_set, List.length_replicate]; omega, by rw [List.length_set, List.length_replicate]; omega⟩) hL zx zx Q (fun x hx => Classical.byContradiction fun X => W x (T x X) hx) V) ?_
  rintro _ V ⟨Q, rfl, T, L, W⟩
  have V := hAr.lt
  have V := U.lt
  have hL_old := hL
  have := Q.size
  have hAr := hAr.keepG Q (hL_old.notBx hAr zz zz zz)
  have hb := below_stepG hb Q hb.size (fun k hk => (hL_old.lt k hk).1)
  refine op_bin (v := .bool false) (zA e rfl) rfl (by rw [binOp_neq]; rfl) (zB (J _ _ (wp_cond_false (zA e rfl) (wp_skip (C _ _ (zH (zG (zC e rfl z) (zG (zC e rfl f) ?_))))))))
  have hri' := hri.keep0 (zQ hb)
  refine zh slt22 (zA e rfl) hri' (zA e rfl) zx zx ?_
  intro V U W Y Q
  refine zN (v := (Value.int .u8 ((I.getD i 0).toNat : Int))) one5 (zA e rfl) (by have := Q 0 (.int .u8 ((I.getD i 0).toNat : Int)) zz (el_u8 (i := i) zx zx); simpa using this) (zG (zC e rfl f) (op_add (zA e rfl) rfl (add64 zx) (op_index_arr1 (j := ((I.getD i 0).toNat)) arr55 (zC e rfl H) (zA e rfl) zx zx ?_)))
  have hAr_old := hAr
  refine op_store_row (v := (Value.int .i64 (((i : Nat) : Int) + 1))) size3 (zA e rfl) (zA e rfl) rfl rfl hAr (by rw [List.length_map]; omega) ?_
  intro U hAr Q
  have := Q.size
  have L := L.keepG (Gr.of Q) (Dj.one (L.notBx hAr_old zz zz zz))
  have hb := below_step1 hb Q hb.size zx
  have hAr : Bx U s 55 (((A.set ((I.getD i 0).toNat) (((i : Nat) : Int) + 1)).map (Value.int .i64))) := row_set hAr
  refine zB (g _ _ (zH (zG (zC e rfl f) (op_add (zA e rfl) rfl (add64 zx) (zD (zA e rfl) (zB ?_))))))
  -- round 21F 25F 30F 36T
  exact zg _ e M ⟨(i + 1), mput R (((I.getD i 0).toNat : Nat) : Int) ((List.replicate F 0 : By).set 0 (UInt8.ofNat i)), (A.set ((I.getD i 0).toNat) (((i : Nat) : Int) + 1)), T, rfl, (zL e rfl z), (zL e rfl P), (zL e rfl O), (zL e rfl K), (zL e rfl H), (zU e rfl).trans (congrArg (Value.int .i64) zx), zx, (hK.put hL.nodup (by have := (I.getD i 0).toNat_lt; omega) zx (by rw [List.length_set, List.length_replicate]; omega) (getD0_set zx)), hb, zx, L, hAr⟩ zx
 refine zB (C _ _ (wp_cond_false (zA c rfl) (wp_exit (then_exit (then_exit (blk_hit (a _ _ (zF fun _ a => zF fun _ g => zH (zD rfl (zB (g _ _ (wp_block (loop_m (fun mz_ az_ w' => ∃ (jj : Nat) (f : List (Int × By)) (e : List Int) (FM : Nat → Prop), mz_ = D.length - jj ∧ (Sl az_ 2 vd) ∧ (Sl az_ 7 (ptr m 0)) ∧ (Sl az_ 8 (ptr s 0)) ∧ (Sl az_ 12 (.int .i64 ((jj : Nat) : Int))) ∧ (jj ≤ D.length) ∧ (KInv f e) ∧ (Below w.heap.size w w') ∧ (B.heap.size ≤ w'.heap.size) ∧ (HeapR w' w.heap.size m f i FM) ∧ (Bx w' s 55 ((e.map (Value.int .i64))))) _ c y ⟨0, R, A, FK, rfl, (zL c rfl p), (zL c rfl u), (zL c rfl t), (zU c rfl), (Nat.zero_le _), hK, hb, (Nat.le_refl _), hL, hAr⟩ ?_)))))))))))))
 rintro _ K F c B ⟨jj, f, e, FM, rfl, u, z, y, t, hj, p, hb, H, hM, hAs⟩
 have := hb.size
 refine zF fun _ g => zF fun _ C => zH (zG (zC c rfl t) (zG (zC c rfl u) ?_))
 have hrd' := hrd.keep0 (zQ hb)
 refine op_len_rd Try.underlying22 (zA c rfl) hrd' (op_lss (zA c rfl) (zA c rfl) (fun H => ?_) (fun H => ?_))
 ·
  refine zB (C _ _ (wp_cond_true (zA c rfl) (wp_skip (g _ _ (zF fun _ g => wp_block (zF fun _ C => zF fun _ J => ?_))))))
  have hDt := (D.getD jj 0).toNat_lt
  have H := p.len
  have hDR := hrd'
  obtain ⟨bD, oD, hAtD⟩ := RdC.atV (i := jj) hDR zx zx
  have hcD := u8_at (l := D) (i := jj) zx
  have K := hrd'
  refine reg_split (hd := [_, _, _, _, _, _, _, _, _, _, _, _, _, _, _]) (tl := _) 15 mixed zy rfl rfl (any_tree (φ := phiV [(fun uz => uz = (ptr m 0)), (fun uz => uz = vd), (fun uz => uz = (.int .i64 ((jj : Nat) : Int))), (fun uz => uz = (ptr bD oD)), (fun uz => uz = (.int .u8 ((D.getD jj 0).toNat : Int))), (fun uz => uz = (.int .u64 (((D.getD jj 0).toNat : Nat) : Int))), (fun _ => True), (fun _ => True), (fun uz => uz = vd), (fun uz => uz = (.int .i64 ((jj : Nat) : Int))), (fun uz => uz = (ptr bD oD)), (fun uz => uz = (.int .u8 ((D.getD jj 0).toNat : Int))), (fun uz => uz = (ptr s ((D.getD jj 0).toNat))), (fun uz => uz = (.int .i64 (e.getD ((D.getD jj 0).toNat) 0))), (fun uz => uz = (.bool (decide (0 < (e.getD ((D.getD jj 0).toNat) 0)))))]) (G := fun w' => RdC w' 0 w.heap.size 1 vd D.length (D.map u8v) ∧ Bx w' s 55 ((e.map (Value.int .i64)))) [6, 7] zy zy zy zy zy c (fun o O E h => by obtain ⟨L, M⟩ := h; exact ⟨L.keep0 E, M.keep0 E⟩) ⟨K, hAs⟩ (ObRs9.cons ?_ (ObRs9.cons ?_ (ObRs9.cons ?_ (ObRs9.cons ?_ (ObRs9.cons ?_ (ObRs9.cons ?_ (ObRs9.pass rfl (ObRs9.pass rfl (ObRs9.cons ?_ (ObRs9.cons ?_ (ObRs9.cons ?_ (ObRs9.cons ?_ (ObRs9.cons ?_ (ObRs9.cons ?_ (ObRs9.cons ?_ (ObRs9.nil)))))))))))))))) (by simp only [putsL_defers]) ?_)
  ·
   intro eA aA wA hNA hGA hbsA hdpA
   have o := (hbsA 7 rfl).trans (zL c rfl z)
   refine zG (zC hNA rfl o) ?_
   exact obT_end rfl rfl
  ·
   intro eA aA wA hNA hGA hbsA hdpA
   have o := (hbsA 2 rfl).trans (zL c rfl u)
   refine zG (zC hNA rfl o) ?_
   exact obT_end rfl rfl
  ·
   intro eA aA wA hNA hGA hbsA hdpA
   have L := (hbsA 12 rfl).trans (zL c rfl t)
   refine zG (zC hNA rfl L) ?_
   exact obT_end rfl rfl
  ·
   intro eA aA wA hNA hGA hbsA hdpA
   have M : Sl aA 79 vd := (hdpA 1 _ 79 zy rfl rfl).2 rfl
   have O : Sl aA 80 (.int .i64 ((jj : Nat) : Int)) := (hdpA 2 _ 80 zy rfl rfl).2 rfl
   obtain ⟨K, hAs⟩ := hGA
   refine op_index_atR (i := jj) slt22 (zC hNA rfl M) hDR zx (zC hNA rfl O) rfl zx hAtD ?_
   exact obT_end rfl rfl
  ·
   intro eA aA wA hNA hGA hbsA hdpA
   have M : Sl aA 81 (ptr bD oD) := (hdpA 3 _ 81 zy rfl rfl).2 rfl
   obtain ⟨K, hAs⟩ := hGA
   refine zN (v := .int .u8 ((D.getD jj 0).toNat : Int)) one5 (zC hNA rfl M) (K.cellAt hAtD 0 _ hcD) ?_
   exact obT_end rfl rfl
  ·
   intro eA aA wA hNA hGA hbsA hdpA
   have M : Sl aA 82 (.int .u8 ((D.getD jj 0).toNat : Int)) := (hdpA 4 _ 82 zy rfl rfl).2 rfl
   refine op_conv (r := (((D.getD jj 0).toNat : Nat) : Int)) (zC hNA rfl M) us5 Try.underlying57 (wrap_u64 zx) ?_
   exact obT_end rfl rfl
  ·
   intro eA aA wA hNA hGA hbsA hdpA
   have o := (hbsA 2 rfl).trans (zL c rfl u)
   refine zG (zC hNA rfl o) ?_
   exact obT_end rfl rfl
  ·
   intro eA aA wA hNA hGA hbsA hdpA
   have L := (hbsA 12 rfl).trans (zL c rfl t)
   refine zG (zC hNA rfl L) ?_
   exact obT_end rfl rfl
  ·
   intro eA aA wA hNA hGA hbsA hdpA
   have o : Sl aA 86 vd := (hdpA 8 _ 86 zy rfl rfl).2 rfl
   have L : Sl aA 87 (.int .i64 ((jj : Nat) : Int)) := (hdpA 9 _ 87 zy rfl rfl).2 rfl
   obtain ⟨K, hAs⟩ := hGA
   refine op_index_atR (i := jj) slt22 (zC hNA rfl o) hDR zx (zC hNA rfl L) rfl zx hAtD ?_
   exact obT_end rfl rfl
  ·
   intro eA aA wA hNA hGA hbsA hdpA
   have o : Sl aA 88 (ptr bD oD) := (hdpA 10 _ 88 zy rfl rfl).2 rfl
   obtain ⟨K, hAs⟩ := hGA
   refine zN (v := .int .u8 ((D.getD jj 0).toNat : Int)) one5 (zC hNA rfl o) (K.cellAt hAtD 0 _ hcD) ?_
   exact obT_end rfl rfl
  ·
   intro eA aA wA hNA hGA hbsA hdpA
   have o := (hbsA 8 rfl).trans (zL c rfl y)
   have L : Sl aA 89 (.int .u8 ((D.getD jj 0).toNat : Int)) := (hdpA 11 _ 89 zy rfl rfl).2 rfl
   obtain ⟨K, hAs⟩ := hGA
   refine op_index_arr1 (j := ((D.getD jj 0).toNat)) arr55 (zC hNA rfl o) (zC hNA rfl L) zx zx ?_
   exact obT_end rfl rfl
  ·
   intro eA aA wA hNA hGA hbsA hdpA
   have o : Sl aA 90 (ptr s ((D.getD jj 0).toNat)) := (hdpA 12 _ 90 zy rfl rfl).2 rfl
   obtain ⟨K, hAs⟩ := hGA
   refine zN (v := (Value.int .i64 (e.getD ((D.getD jj 0).toNat) 0))) one3 (zC hNA rfl o) (hAs.cell (row_at (d := 0) (by first | omega | (simp only [List.length_set]; omega)))) ?_
   exact obT_end rfl rfl
  ·
   intro eA aA wA hNA hGA hbsA hdpA
   have o : Sl aA 91 (.int .i64 (e.getD ((D.getD jj 0).toNat) 0)) := (hdpA 13 _ 91 zy rfl rfl).2 rfl
   refine op_cmp (b := (decide (0 < (e.getD ((D.getD jj 0).toNat) 0)))) (zC hNA rfl o) rfl (b_gtr rfl) ?_
   exact obT_end rfl rfl
  refine kt_step (rs := [6]) zy (one_mem ?_)
  intro P o _ O L Q M o_ ho_; obtain rfl := zE ho_
  obtain ⟨hb, _⟩ := yE hb o
  have hM := hM.kz o
  have hAs := hAs.keep0 o
  have P : Sl O 78 (ptr m 0) := (M 0 _ 78 zy rfl rfl).2 rfl
  have Q : Sl O 83 (.int .u64 (((D.getD jj 0).toNat : Nat) : Int)) := (M 5 _ 83 zy rfl rfl).2 rfl
  refine ze (vs := [(ptr m 0), (.int .u64 (((D.getD jj 0).toNat : Nat) : Int))]) ok29 ⟨(zC L rfl P), ⟨(zC L rfl Q), trivial⟩⟩ (hDrop_ret (((D.getD jj 0).toNat : Nat) : Int) hM zx) ?_
  rintro _ P ⟨M, rfl, O, L, Q⟩
  have P := hAs.lt
  have hM_old := hM
  have := M.size
  have K := (K.keep0 o).keepG M (fun k hk => .inr (by have := hM_old.lt k hk; omega))
  have hAs := hAs.keepG M (hM_old.notBx hAs zz zz zz)
  have hb := below_stepG hb M hb.size (fun k hk => (hM_old.lt k hk).1)
  refine kt_end rfl ⟨K, hAs⟩ (kt_step (rs := [7]) zy (one_mem ?_))
  intro T o _ M P U Q o_ ho_; obtain rfl := zE ho_
  obtain ⟨hb, _⟩ := yE hb o
  have K := K.keep0 o
  have hAs := hAs.keep0 o
  have L := L.kz o
  have o : Sl M 84 (.int .i64 (if (mget f (((D.getD jj 0).toNat : Nat) : Int)).isSome = true then 0 else 22)) := (zE ((Q 6 _ 84 zy rfl rfl).1 rfl)).symm
  refine op_eql (zC P rfl o) rfl (fun M => ?_) (fun M => ?_)
  ·
   refine kt_end rfl ⟨K, hAs⟩ ?_
   intro W P V o T Q U
   have T := T.trans ((by simp only [putsL_defers] : _ = _).trans B)
   obtain ⟨hb, _⟩ := yE hb P
   have K := K.keep0 P
   have hAs := hAs.keep0 P
   have L := L.kz P
   have P := (Q 2 rfl).trans (zL c rfl u)
   have W := (Q 7 rfl).trans (zL c rfl z)
   have Y := (Q 8 rfl).trans (zL c rfl y)
   have Z := (Q 12 rfl).trans (zL c rfl t)
   have Q : Sl V 85 (.bool true) := (zE ((U 7 _ 85 rfl rfl).1 rfl)).symm
   have aa : Sl V 92 (.bool (decide (0 < (e.getD ((D.getD jj 0).toNat) 0)))) := (U 14 _ 92 rfl rfl).2 rfl
   refine split_end (from_seq (tl := [_]) zz zy rfl (op_neb Try.underlying4 (zC o rfl Q) (zC o rfl aa) (zB (J _ _ (wp_cond_split (zA o rfl) (fun U => ?_) (fun U => ?_))))))
   ·
    exfalso; have X := p.drop_ok (id := (D.getD jj 0).toNat) zx; simp only [bne_iff_ne, ne_eq] at U; exact U (decide_eq_true (X.1 M)).symm
   refine wp_skip (C _ _ (zH ?_))
   have hDt := (D.getD jj 0).toNat_lt
   have H := p.len
   refine zG (zC o rfl P) (zG (zC o rfl Z) (zh slt22 (zA o rfl) K (zA o rfl) zx zx ?_))
   intro ac aa ab V Q
   refine zN (v := (Value.int .u8 ((D.getD jj 0).toNat : Int))) one5 (zA o rfl) (by have := Q 0 (.int .u8 ((D.getD jj 0).toNat : Int)) zz (el_u8 (i := jj) zx zx); simpa using this) (op_index_arr1 (j := ((D.getD jj 0).toNat)) arr55 (zC o rfl Y) (zA o rfl) zx zx ?_)
   have hAs_old := hAs
   refine op_store_row (v := (Value.int .i64 0)) size3 (zA o rfl) rfl rfl rfl hAs (by rw [List.length_map]; omega) ?_
   intro V hAs Q
   have := Q.size
   have L := L.keepG (Gr.of Q) (Dj.one (L.notBx hAs_old zz zz zz))
   have hb := below_step1 hb Q hb.size zx
   have hAs : Bx V s 55 (((e.set ((D.getD jj 0).toNat) 0).map (Value.int .i64))) := row_set hAs
   refine zB (g _ _ (zH (zG (zC o rfl Z) (op_add (zA o rfl) rfl (add64 zx) (zD (zA o rfl) (zB ?_))))))
   -- round 21F 25F 30F 36F 75T 85T 93F
   exact zg _ o T ⟨(jj + 1), mdel f (((D.getD jj 0).toNat : Nat) : Int), (e.set ((D.getD jj 0).toNat) 0), O, rfl, (zL o rfl P), (zL o rfl W), (zL o rfl Y), (zU o rfl).trans (congrArg (Value.int .i64) zx), zx, (p.drop hM.nodup (by have := (D.getD jj 0).toNat_lt; omega)), hb, zx, L, hAs⟩ zx
  refine kt_end rfl ⟨K, hAs⟩ ?_
  intro Y Q W o T P V
  have T := T.trans ((by simp only [putsL_defers] : _ = _).trans B)
  obtain ⟨hb, _⟩ := yE hb Q
  have K := K.keep0 Q
  have hAs := hAs.keep0 Q
  have L := L.kz Q
  have Q := (P 2 rfl).trans (zL c rfl u)
  have u := (P 7 rfl).trans (zL c rfl z)
  have Y := (P 8 rfl).trans (zL c rfl y)
  have Z := (P 12 rfl).trans (zL c rfl t)
  have t : Sl W 85 (.bool false) := (zE ((V 7 _ 85 rfl rfl).1 rfl)).symm
  have P : Sl W 92 (.bool (decide (0 < (e.getD ((D.getD jj 0).toNat) 0)))) := (V 14 _ 92 rfl rfl).2 rfl
  refine split_end (from_seq (tl := [_]) zz zy rfl (op_neb Try.underlying4 (zC o rfl t) (zC o rfl P) (zB (J _ _ (wp_cond_split (zA o rfl) (fun U => ?_) (fun U => ?_))))))
  ·
   exfalso; have X := p.drop_ok (id := (D.getD jj 0).toNat) zx; simp only [bne_iff_ne, ne_eq] at U; exact U (decide_eq_false (fun q => M (X.2 q))).symm
  refine wp_skip (C _ _ (zH ?_))
  have hDt := (D.getD jj 0).toNat_lt
  have H := p.len
  refine zG (zC o rfl Q) (zG (zC o rfl Z) (zh slt22 (zA o rfl) K (zA o rfl) zx zx ?_))
  intro M K P U t
  refine zN (v := (Value.int .u8 ((D.getD jj 0).toNat : Int))) one5 (zA o rfl) (by have := t 0 (.int .u8 ((D.getD jj 0).toNat : Int)) zz (el_u8 (i := jj) zx zx); simpa using this) (op_index_arr1 (j := ((D.getD jj 0).toNat)) arr55 (zC o rfl Y) (zA o rfl) zx zx ?_)
  have hAs_old := hAs
  refine op_store_row (v := (Value.int .i64 0)) size3 (zA o rfl) rfl rfl rfl hAs (by rw [List.length_map]; omega) ?_
  intro K hAs t
  have := t.size
  have L := L.keepG (Gr.of t) (Dj.one (L.notBx hAs_old zz zz zz))
  have hb := below_step1 hb t hb.size zx
  have hAs : Bx K s 55 (((e.set ((D.getD jj 0).toNat) 0).map (Value.int .i64))) := row_set hAs
  refine zB (g _ _ (zH (zG (zC o rfl Z) (op_add (zA o rfl) rfl (add64 zx) (zD (zA o rfl) (zB ?_))))))
  -- round 21F 25F 30F 36F 75T 85F 93F
  exact zg _ o T ⟨(jj + 1), mdel f (((D.getD jj 0).toNat : Nat) : Int), (e.set ((D.getD jj 0).toNat) 0), O, rfl, (zL o rfl Q), (zL o rfl u), (zL o rfl Y), (zU o rfl).trans (congrArg (Value.int .i64) zx), zx, (p.drop hM.nodup (by have := (D.getD jj 0).toNat_lt; omega)), hb, zx, L, hAs⟩ zx
 refine zB (C _ _ (wp_cond_false (zA c rfl) (wp_exit (then_exit (then_exit (blk_hit (a _ _ (zF fun _ a => ?_))))))))
 refine zH (zD rfl (zB (a _ _ (zF fun _ a => zF fun _ g => zH (zD rfl (zB (g _ _ (wp_block (loop_m (fun mz_ az_ w' => ∃ (qq : Nat) (FQ : Nat → Prop), mz_ = 256 - qq ∧ (Sl az_ 7 (ptr m 0)) ∧ (Sl az_ 8 (ptr s 0)) ∧ (Sl az_ 14 (.int .i64 ((qq : Nat) : Int))) ∧ (Sl az_ 13 (.int .i64 (((liveN f qq) : Nat) : Int))) ∧ (qq ≤ 256) ∧ (Below w.heap.size w w') ∧ (F.heap.size ≤ w'.heap.size) ∧ (Bx w' s 55 ((e.map (Value.int .i64)))) ∧ (HeapR w' w.heap.size m f i FQ)) _ c B ⟨0, FM, rfl, (zL c rfl z), (zL c rfl y), (zU c rfl), (zU c rfl).trans rfl, zx, hb, (Nat.le_refl _), hAs, hM⟩ ?_)))))))))
 rintro _ F B c y ⟨qq, FQ, rfl, s, t, o, u, hq, hb, z, hAs, hQ⟩
 have := hb.size
 refine zF fun _ g => zF fun _ C => zH (zG (zC c rfl o) (op_lss (zA c rfl) rfl (fun z => ?_) (fun z => ?_)))
 ·
  refine zB (C _ _ (wp_cond_true (zA c rfl) (wp_skip (g _ _ (zF fun _ g => wp_block (zF fun _ C => zH ?_))))))
  have H := p.len
  refine zG (zC c rfl s) (zG (zC c rfl o) (op_conv (r := ((qq : Nat) : Int)) (zA c rfl) us3 Try.underlying57 (wrap_u64 zx) ?_))
  rcases Bool.eq_false_or_eq_true (decide (0 < e.getD qq 0)) with z | z
  ·
   have B : 0 < e.getD qq 0 := of_decide_eq_true z
   obtain ⟨K, F, P, O, H, M, L⟩ := p.hit (id := qq) zx B
   refine ze (vs := [(ptr m 0), (.int .u64 ((qq : Nat) : Int))]) ok30 ⟨(zA c rfl), ⟨(zA c rfl), trivial⟩⟩ (hGet_hit (id := ((qq : Nat) : Int)) (b := F) hQ zx H) ?_
   rintro _ T ⟨P, V, Q, rfl, M, O, U⟩
   have T := hAs.lt
   have T := M.mono (base' := w.heap.size) zx
   have hQ_old := hQ
   have := P.size
   have hAs := hAs.keepG P (hQ_old.notBx hAs zz zz zz)
   have hb := below_stepG hb P hb.size (fun k hk => (hQ_old.lt k hk).1)
   have M := T
   refine zG (zA c rfl) (zW (zA c rfl) rfl (zW (zA c rfl) rfl (zD (zA c rfl) (zD (zA c rfl) (zB (C _ _ (zF fun _ C => zF fun _ J => reg_still mixed zy ?_)))))))
   intro T P
   obtain ⟨hb, _⟩ := yE hb P
   have hAs := hAs.keep0 P
   have M := M.keep0 P
   have O := O.kz P
   refine st_step rfl (fun _ X => zG (zA c rfl) X) (st_step rfl (fun _ X => op_bin (v := .bool true) (zA c rfl) rfl (by rw [binOp_eql]; rfl) X) (st_step rfl (fun _ X => zG (zC c rfl o) X) (st_step rfl (fun _ X => op_index_arr1 (j := qq) arr55 (zC c rfl t) (zA c rfl) zx zx X) (st_step rfl (fun _ X => zN (v := (Value.int .i64 (e.getD qq 0))) one3 (zA c rfl) (hAs.cell (row_at (d := 0) (by first | omega | (simp only [List.length_set]; omega)))) X) (st_step rfl (fun _ X => op_cmp (b := (decide (0 < (e.getD qq 0)))) (zA c rfl) rfl (b_gtr rfl) X) (st_step rfl (fun _ X => op_neb Try.underlying4 (zA c rfl) (zA c rfl) X) ?_))))))
   rcases Bool.eq_false_or_eq_true ((true != (decide (0 < (e.getD qq 0))))) with P | P
   ·
    rw [decide_eq_true B] at P; exact absurd P zz
   rw [P]
   refine st_step rfl (fun _ X => zG (zA c rfl) X) (st_g_true (j := 7) (dj := 117) (b := false) rfl rfl rfl (zA c rfl) ?_)
   refine st_step rfl (fun _ X => zG (zA c rfl) X) (st_g_true (j := 7) (dj := 117) (b := false) rfl rfl rfl (zA c rfl) (st_step rfl (fun _ X => op_bin (v := .bool true) (zA c rfl) rfl (by rw [binOp_eql]; rfl) X) (st_g_true (j := 7) (dj := 117) (b := false) rfl rfl rfl (zA c rfl) (st_step rfl (fun _ X => zG (zA c rfl) X) (st_g_true (j := 10) (dj := 120) (b := true) rfl rfl rfl (zA c rfl) (st_step rfl (fun _ X => zG (zA c rfl) X) (st_g_true (j := 10) (dj := 120) (b := true) rfl rfl rfl (zA c rfl) (st_step rfl (fun _ X => op_len_rd Try.underlying22 (zA c rfl) M.rdw X) (st_g_true (j := 10) (dj := 120) (b := true) rfl rfl rfl (zA c rfl) ?_)))))))))
   by_cases T : (((F : By).length : Nat) : Int) = 0
   ·
    exfalso; omega
   refine st_step rfl (fun _ X => op_cmp (b := false) (zA c rfl) rfl (b_eql (decide_eq_false T)) X) (st_g_true (j := 10) (dj := 120) (b := true) rfl rfl rfl (zA c rfl) (st_step rfl (fun _ X => zG (zA c rfl) X) (st_g_true (j := 14) (dj := 124) (b := false) rfl rfl rfl (zA c rfl) (st_step rfl (fun _ X => zG (zA c rfl) X) (st_g_true (j := 14) (dj := 124) (b := false) rfl rfl rfl (zA c rfl) (st_index_rd slt22 (zA c rfl) M.rdw rfl zx zx ?_))))))
   intro V U T W M
   refine st_g_true (j := 14) (dj := 124) (b := false) rfl rfl rfl (zA c rfl) ?_
   refine st_step rfl (fun _ X => zN (v := (Value.int .u8 (((F : By).getD 0 0).toNat : Int))) one5 (zA c rfl) (by have := M 0 (.int .u8 (((F : By).getD 0 0).toNat : Int)) zz (el_u8 (i := 0) zx zx); simpa using this) X) (st_g_true (j := 14) (dj := 124) (b := false) rfl rfl rfl (zA c rfl) (st_step rfl (fun _ X => zG (zC c rfl o) X) (st_g_true (j := 14) (dj := 124) (b := false) rfl rfl rfl (zA c rfl) (st_step rfl (fun _ X => op_index_arr1 (j := qq) arr55 (zC c rfl t) (zA c rfl) zx zx X) (st_g_true (j := 14) (dj := 124) (b := false) rfl rfl rfl (zA c rfl) (st_step rfl (fun _ X => zN (v := (Value.int .i64 (e.getD qq 0))) one3 (zA c rfl) (hAs.cell (row_at (d := 0) (by first | omega | (simp only [List.length_set]; omega)))) X) (st_g_true (j := 14) (dj := 124) (b := false) rfl rfl rfl (zA c rfl) (st_step rfl (fun _ X => op_sub (zA c rfl) rfl (sub64 zx) X) (st_g_true (j := 14) (dj := 124) (b := false) rfl rfl rfl (zA c rfl) ?_)))))))))
   refine st_step rfl (fun _ X => op_conv (r := ((e.getD qq 0) - 1)) (zA c rfl) us3 Try.underlying5 (wrap_u8 zx) X) (st_g_true (j := 14) (dj := 124) (b := false) rfl rfl rfl (zA c rfl) (st_step rfl (fun _ X => op_cmp (b := (decide ((((F : By).getD 0 0).toNat : Int) ≠ ((e.getD qq 0) - 1)))) (zA c rfl) (zA c rfl) (b_neq rfl) X) (st_g_true (j := 10) (dj := 120) (b := true) rfl rfl rfl (zA c rfl) (st_step rfl (fun _ X => zd (zA c rfl) (zA c rfl) X) (st_g_true (j := 7) (dj := 117) (b := false) rfl rfl rfl (zA c rfl) (st_step rfl (fun _ X => zc (zA c rfl) (zA c rfl) X) (st_step rfl (fun _ X => zd (zA c rfl) (zA c rfl) X) (st_nil (J _ _ (wp_cond_split (zA c rfl) (fun M => ?_) (fun M => ?_)))))))))))
   ·
    have M := of_decide_eq_true M
    exfalso; have h8 : (UInt8.ofNat K).toNat = K := by (rw [UInt8.toNat_ofNat']; omega)
    rw [L, h8] at M; omega
   have M := of_decide_eq_false M
   refine wp_skip (C _ _ (zF fun _ C => zH (zG (zA c rfl) (op_bin (v := .bool true) (zA c rfl) rfl (by rw [binOp_eql]; rfl) (zB (C _ _ (wp_cond_true (zA c rfl) (zH ?_))))))))
   have hlv := liveN_le f qq
   refine zG (zC c rfl u) (op_add (zA c rfl) rfl (add64 zx) (zD (zA c rfl) (zB (g _ _ (zH (zG (zC c rfl o) (op_add (zA c rfl) rfl (add64 zx) (zD (zA c rfl) (zB ?_)))))))))
   -- round 21F 25F 30F 36F 75F 100T 107T 116F 123F 136F
   exact zg _ c y ⟨(qq + 1), Q, rfl, (zL c rfl s), (zL c rfl t), (zU c rfl).trans (congrArg (Value.int .i64) zx), (zU c rfl).trans (congrArg (Value.int .i64) (by rw [liveN_t (by rw [H]; rfl)]; omega)), zx, hb, zx, hAs, O⟩ zx
  have B : ¬ 0 < e.getD qq 0 := of_decide_eq_false z
  have H := p.miss (id := qq) zx B
  refine ze (vs := [(ptr m 0), (.int .u64 ((qq : Nat) : Int))]) ok30 ⟨(zA c rfl), ⟨(zA c rfl), trivial⟩⟩ (hGet_miss (id := ((qq : Nat) : Int)) hQ zx H) ?_
  rintro _ F ⟨z, rfl⟩
  have z := zQ z
  obtain ⟨hb, _⟩ := yE hb z
  have hQ := hQ.kz z
  refine zG (zA c rfl) (zW (zA c rfl) rfl (zW (zA c rfl) rfl (zD (zA c rfl) (zD (zA c rfl) (zB (C _ _ (zF fun _ C => zF fun _ J => reg_still mixed zy ?_)))))))
  intro K F
  obtain ⟨hb, _⟩ := yE hb F
  have hAs := (hAs.keep0 z).keep0 F
  have hQ := hQ.kz F
  refine st_step rfl (fun _ X => zG (zA c rfl) X) (st_step rfl (fun _ X => op_bin (v := .bool false) (zA c rfl) rfl (by rw [binOp_eql]; rfl) X) (st_step rfl (fun _ X => zG (zC c rfl o) X) (st_step rfl (fun _ X => op_index_arr1 (j := qq) arr55 (zC c rfl t) (zA c rfl) zx zx X) (st_step rfl (fun _ X => zN (v := (Value.int .i64 (e.getD qq 0))) one3 (zA c rfl) (hAs.cell (row_at (d := 0) (by first | omega | (simp only [List.length_set]; omega)))) X) (st_step rfl (fun _ X => op_cmp (b := (decide (0 < (e.getD qq 0)))) (zA c rfl) rfl (b_gtr rfl) X) (st_step rfl (fun _ X => op_neb Try.underlying4 (zA c rfl) (zA c rfl) X) ?_))))))
  rcases Bool.eq_false_or_eq_true ((false != (decide (0 < (e.getD qq 0))))) with P | P
  ·
   rw [decide_eq_false B] at P; exact absurd P zz
  rw [P]
  refine st_step rfl (fun _ X => zG (zA c rfl) X) (st_g_true (j := 7) (dj := 117) (b := false) rfl rfl rfl (zA c rfl) (st_step rfl (fun _ X => zG (zA c rfl) X) (st_g_true (j := 7) (dj := 117) (b := false) rfl rfl rfl (zA c rfl) ?_)))
  refine st_step rfl (fun _ X => op_bin (v := .bool false) (zA c rfl) rfl (by rw [binOp_eql]; rfl) X) (st_g_true (j := 7) (dj := 117) (b := false) rfl rfl rfl (zA c rfl) (st_step rfl (fun _ X => zG (zA c rfl) X) (st_g_false (j := 10) (dj := 120) (b := true) rfl rfl rfl (zA c rfl) rfl rfl (st_g_false (j := 10) (dj := 120) (b := true) rfl rfl rfl (zA c rfl) rfl rfl (st_g_false (j := 10) (dj := 120) (b := true) rfl rfl rfl (zA c rfl) rfl rfl (st_g_false (j := 10) (dj := 120) (b := true) rfl rfl rfl (zA c rfl) rfl rfl (st_g_undef (j := 14) (dj := 124) (b := false) rfl rfl rfl (zA c rfl) rfl (st_g_undef (j := 14) (dj := 124) (b := false) rfl rfl rfl (zA c rfl) rfl (st_g_undef (j := 14) (dj := 124) (b := false) rfl rfl rfl (zA c rfl) rfl ?_)))))))))
  refine st_g_undef (j := 14) (dj := 124) (b := false) rfl rfl rfl (zA c rfl) rfl (st_g_undef (j := 14) (dj := 124) (b := false) rfl rfl rfl (zA c rfl) rfl (st_g_undef (j := 14) (dj := 124) (b := false) rfl rfl rfl (zA c rfl) rfl (st_g_undef (j := 14) (dj := 124) (b := false) rfl rfl rfl (zA c rfl) rfl (st_g_undef (j := 14) (dj := 124) (b := false) rfl rfl rfl (zA c rfl) rfl (st_g_undef (j := 14) (dj := 124) (b := false) rfl rfl rfl (zA c rfl) rfl (st_g_false (j := 10) (dj := 120) (b := true) rfl rfl rfl (zA c rfl) rfl rfl (st_g_true (j := 7) (dj := 117) (b := false) rfl rfl rfl (zA c rfl) (st_step rfl (fun _ X => zd (zA c rfl) rfl X) (st_step rfl (fun _ X => zd (zA c rfl) (zA c rfl) X) ?_)))))))))
  refine st_nil (J _ _ (wp_cond_false (zA c rfl) (wp_skip (C _ _ (zF fun _ C => zH (zG (zA c rfl) (op_bin (v := .bool false) (zA c rfl) rfl (by rw [binOp_eql]; rfl) (zB (C _ _ (wp_cond_false (zA c rfl) (wp_skip (g _ _ (zH (zG (zC c rfl o) (op_add (zA c rfl) rfl (add64 zx) (zD (zA c rfl) (zB ?_)))))))))))))))))
  -- round 21F 25F 30F 36F 75F 100T 107F 116F
  exact zg _ c y ⟨(qq + 1), FQ, rfl, (zL c rfl s), (zL c rfl t), (zU c rfl).trans (congrArg (Value.int .i64) zx), (zL c rfl u).trans (congrArg (Value.int .i64) (by rw [liveN_f H])), zx, hb, zx, hAs, hQ⟩ zx
 refine zB (C _ _ (wp_cond_false (zA c rfl) (wp_exit (then_exit (then_exit (blk_hit (a _ _ (zF fun _ a => zH ?_))))))))
 have hlv := liveN_le f qq
 have hall : liveN f qq = f.length := by rw [show qq = 256 by omega]; exact liveN_all p hQ.nodup
 refine zG (zC c rfl s) (ze (vs := [(ptr m 0)]) ok31 ⟨(zA c rfl), trivial⟩ (hLen_ret hQ zx) ?_)
 rintro _ f ⟨e, rfl⟩
 have e := zQ e
 obtain ⟨hb, _⟩ := yE hb e
 have hQ := hQ.kz e
 refine zG (zC c rfl u) (op_eql (zA c rfl) (zA c rfl) (fun e => ?_) (fun e => ?_))
 ·
  refine zG (zA c rfl) (zS (j := 4) (dj := 145) (b := true) rfl rfl rfl (zA c rfl) (zG (zC c rfl s) (zS (j := 4) (dj := 145) (b := true) rfl rfl rfl (zA c rfl) (ze (vs := [(ptr m 0)]) ok32 ⟨(zA c rfl), trivial⟩ (hPages_ret hQ zx) ?_))))
  rintro _ g ⟨e, m, rfl, f⟩
  have e := zQ e
  obtain ⟨hb, _⟩ := yE hb e
  refine zS (j := 4) (dj := 145) (b := true) rfl rfl rfl (zA c rfl) (zG (zC c rfl u) (zS (j := 4) (dj := 145) (b := true) rfl rfl rfl (zA c rfl) (op_add (zA c rfl) rfl (add64 zx) (zS (j := 4) (dj := 145) (b := true) rfl rfl rfl (zA c rfl) (op_leq (zA c rfl) (zA c rfl) (fun e => ?_) (fun e => ?_))))))
  ·
   refine zc (zA c rfl) (zA c rfl) (zD (zA c rfl) (zB (a _ _ (wp_ret (ret1 rfl y (zA c rfl) ⟨_, rfl, ?_⟩)))))
   exact ⟨hb, rfl⟩
  exfalso; omega
 exfalso; omega

end Go.Proofs.Ytdhpalioifjfbaa

namespace Go.Proofs.Ytdhpalioifjfbaa
open Go.Gx Go.RowKit
theorem rd_le {w : World} {L B sz n : Nat} {v : Value} {cs : List Value} (h : RdC w L B sz v n cs) : n ≤ 9223372036854775807 := by obtain ⟨_, _, _, _, hq, hm, _⟩ := h; exact Nat.le_trans hq hm
theorem cells5 : Try.prog.cellsOf 5 = 1 := by kernel_rfl
theorem flat_u8v (l : List UInt8) : l.flatMap (fun c => [u8v c]) = l.map u8v := by induction l with | nil => rfl | cons c l ih => simp [ih]
theorem dec22 {H : Type} {enc : TypeId × Value → H} {w : World} {base : Nat} {spare : Nat → Bool} {held : Bool} : Dec enc Try.prog w base spare held 22 (fun p : Value × List UInt8 => [p.1]) (fun p => RdC w 0 w.heap.size 1 p.1 p.2.length (p.2.map u8v)) :=
  (Dec.slice Try.underlying22 (by rw [cells5]; decide) (Dec.u8 Try.underlying5) (fun _ _ => by rw [cells5]; rfl)).map fun p hp => ⟨p, rfl, by have hq := hp.1; rwa [cells5, flat_u8v] at hq⟩
end Go.Proofs.Ytdhpalioifjfbaa
