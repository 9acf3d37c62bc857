/- Nodes that are not leaves: made anew, and parted. -/
import Derived.Test.YtcpfdfejojghbaaB3
namespace Go.Gx
open Go.Bt Go.RowKit
section
variable {V : Type} {κ : Kd V} {w w' : World} {F G G1 G2 H W W' W2 R : Nat → Prop} {base e sz n n2 b t h p q i : Nat} {u m pv kv cv qk qc : Value} {cs : List Value} {D : List (DP V)} {K : List DK} {P : List Nat} {k y : Ky} {x : V} {ts : List (Tr V h)} {c t2 : Tr V h}
variable {α : Type} {A : Nat → α → (Nat → Prop) → Prop} {ys9 : List α} {a : α} {f : Nat → Prop}
theorem Kids.cutc (K : Kids A P ys9 G) (hc : ys9[i]? = some a) : ∃ f G0, A (P.getD i default) a f ∧ Kids A (P.eraseIdx i) (ys9.eraseIdx i) G0 ∧ Dj f G0 ∧ (∀ k, f k → G k) ∧ (∀ k, G0 k → G k) := by
  obtain ⟨hi, rfl⟩ := List.getElem?_eq_some_iff.1 hc
  exact K.cut1 hi
theorem Kids.split (K : Kids A P ys9 G) (n : Nat) : ∃ G1 G2, Kids A (P.take n) (ys9.take n) G1 ∧ Kids A (P.drop n) (ys9.drop n) G2 ∧ Dj G1 G2 ∧ (∀ k, G1 k → G k) ∧ (∀ k, G2 k → G k) := by
  obtain ⟨L, rfl, rfl, h3, h4, h5⟩ := K
  have hp := h4
  rw [← List.take_append_drop n L, List.pairwise_append] at hp
  refine ⟨fun k => ∃ x ∈ L.take n, x.2.2 k, fun k => ∃ x ∈ L.drop n, x.2.2 k, ⟨L.take n, by rw [List.map_take], by rw [List.map_take], fun x hx => h3 x (List.mem_of_mem_take hx), hp.1, fun _ => Iff.rfl⟩, ⟨L.drop n, by rw [List.map_drop], by rw [List.map_drop], fun x hx => h3 x (List.mem_of_mem_drop hx), hp.2.1, fun _ => Iff.rfl⟩, ?_, fun k ⟨x, hx, hk⟩ => (h5 k).2 ⟨x, List.mem_of_mem_take hx, hk⟩, fun k ⟨x, hx, hk⟩ => (h5 k).2 ⟨x, List.mem_of_mem_drop hx, hk⟩⟩
  rintro k ⟨x, hx, hk⟩ ⟨y, hy, hk2⟩
  exact hp.2.2 x hx y hy k hk hk2
def nodeW (p : Nat) (kv cv : Value) (G : Nat → Prop) : Nat → Prop := fun j => j = p ∨ Bl kv j ∨ Bl cv j ∨ G j
theorem nodeW_ty (B : Bx w p κ.tB [nilV, kv, cv]) (O : Own w base 27 1 kv n cs) {base2 : Nat} {cs2 : List Value} (O2 : Own w base2 κ.tN 1 cv n2 cs2) (T : TyF κ w G) : TyF κ w (nodeW p kv cv G) := (TyF.ofBx B (.inl rfl)).or ((TyF.ofOwn O (.inr (.inr (.inl rfl)))).or ((TyF.ofOwn O2 (.inr (.inr (.inr rfl)))).or T))
theorem mkNode {base2 : Nat} (B : Bx w p κ.tB [nilV, kv, cv]) (O : Own w base 27 1 kv K.length (K.flatMap cK)) (O2 : Own w base2 κ.tN 1 cv P.length (P.flatMap cN)) (ks : ∀ x9 ∈ K, Own w 0 5 1 x9.1 x9.2.length (x9.2.map u8v)) (kr : ∀ x9 ∈ K, ∀ k, Bl x9.1 k → R k) (Ks : KidsR κ R w h P ts G) (np : ¬ G p) (nk : Dj (Bl kv) G) (nc : Dj (Bl cv) G) : TreeR κ R w (h + 1) p ((K.map Prod.snd, ts) : Tr V (h + 1)) (nodeW p kv cv G) :=
  ⟨kv, cv, K, P, G, ⟨B, O.mono (Nat.zero_le _), O2.mono (Nat.zero_le _), ks, kr, .inl rfl, fun _ h => .inr (.inl h), fun _ h => .inr (.inr (.inl h)), fun _ h => .inr (.inr (.inr h)), nodeW_ty B O O2 Ks.ty, np, nk, nc⟩, Ks, rfl⟩
theorem nodeW_in (hp : p < n → W p) (hk : ∀ j, j < n → Bl kv j → W j) (hc : ∀ j, j < n → Bl cv j → W j) (hg : ∀ j, j < n → G j → W j) : ∀ j, j < n → nodeW p kv cv G j → W j := fun j hj hh => by
  rcases hh with rfl | hh | hh | hh
  · exact hp hj
  · exact hk j hj hh
  · exact hc j hj hh
  · exact hg j hj hh
theorem nodeW_lt (hp : p < n) (hk : ∀ j, Bl kv j → j < n) (hc : ∀ j, Bl cv j → j < n) (hg : ∀ j, G j → j < n) : ∀ j, nodeW p kv cv G j → j < n := fun j hh => by
  rcases hh with rfl | hh | hh | hh
  · exact hp
  · exact hk j hh
  · exact hc j hh
  · exact hg j hh
theorem in_newF (h : NewF n F W') (hs : ∀ k, F k → W k) : ∀ k, k < n → W' k → W k := fun k hk hw => (h k hw).elim (hs k) (fun q => by omega)
theorem out_node_small {X : Tr V (h + 1) × Option (Ky × Tr V (h + 1))} (hX : X = (((K.map Prod.snd, ts) : Tr V (h + 1)), none)) (B : Bx w p κ.tB [nilV, kv, cv]) (O : Own w base 27 1 kv K.length (K.flatMap cK)) {base2 : Nat} (O2 : Own w base2 κ.tN 1 cv P.length (P.flatMap cN)) (ks : ∀ x9 ∈ K, Own w 0 5 1 x9.1 x9.2.length (x9.2.map u8v)) (kr : ∀ x9 ∈ K, ∀ k, Bl x9.1 k → R k) (Ks : KidsR κ R w h P ts G) (np : ¬ G p) (nk : Dj (Bl kv) G) (nc : Dj (Bl cv) G) (N : ∀ j, j < n → nodeW p kv cv G j → W j) : OutR κ R w n W (h + 1) p X nilV (.pointer none) := by
  subst hX; exact ⟨rfl, rfl, _, mkNode B O O2 ks kr Ks np nk nc, newF_in N⟩
theorem out_node_big [Inhabited V] {X : Tr V (h + 1) × Option (Ky × Tr V (h + 1))} {b9 m9 : Nat} (hX : X = (((K.take m9).map Prod.snd, ts.take (m9 + 1)), some ((K.getD m9 default).2, ((K.drop (m9 + 1)).map Prod.snd, ts.drop (m9 + 1))))) (hm : m9 < K.length)
    (B : Bx w p κ.tB [nilV, kv, cv]) (O : Own w 0 27 1 kv (K.take m9).length ((K.take m9).flatMap cK)) (O2 : Own w 0 κ.tN 1 cv (P.take (m9 + 1)).length ((P.take (m9 + 1)).flatMap cN))
    (B2 : Bx w q κ.tB [nilV, qk, qc]) (O3 : Own w b9 27 1 qk (K.drop (m9 + 1)).length ((K.drop (m9 + 1)).flatMap cK)) (O4 : Own w b9 κ.tN 1 qc (P.drop (m9 + 1)).length ((P.drop (m9 + 1)).flatMap cN)) (hq : b9 ≤ q) (hn : n ≤ b9)
    (ks : ∀ x9 ∈ K, Own w 0 5 1 x9.1 x9.2.length (x9.2.map u8v)) (kr : ∀ x9 ∈ K, ∀ k, Bl x9.1 k → R k) (Ks : KidsR κ R w h P ts G) (np : ¬ G p) (nk : Dj (Bl kv) G) (nc : Dj (Bl cv) G) (N : ∀ j, j < n → nodeW p kv cv G j → W j) (hlt : ∀ j, nodeW p kv cv G j → j < b9) : OutR κ R w n W (h + 1) p X (K.getD m9 default).1 (ptr q 0) := by
  obtain ⟨G1, G2, K1, K2, hd, s1, s2⟩ := Kids.split Ks (m9 + 1)
  have hmem := getD_mem (d := default) hm
  have sub : ∀ j, nodeW p kv cv G1 j → nodeW p kv cv G j := fun j hj => by
    rcases hj with hj | hj | hj | hj
    · exact .inl hj
    · exact .inr (.inl hj)
    · exact .inr (.inr (.inl hj))
    · exact .inr (.inr (.inr (s1 j hj)))
  have g2 : ∀ j, G2 j → j < b9 := fun j hj => hlt j (.inr (.inr (.inr (s2 j hj))))
  have fr : ∀ j, nodeW q qk qc G2 j → b9 ≤ j ∨ G2 j := fun j hj => by
    rcases hj with rfl | hj | hj | hj
    · exact .inl hq
    · exact .inl (O3.lt j hj).1
    · exact .inl (O4.lt j hj).1
    · exact .inr hj
  subst hX
  refine ⟨q, _, _, rfl, ks _ hmem, kr _ hmem, mkNode B O O2 (fun x hx => ks x (List.mem_of_mem_take hx)) (fun x hx => kr x (List.mem_of_mem_take hx)) K1 (fun h => np (s1 _ h)) (nk.mono s1) (nc.mono s1), mkNode B2 O3 O4 (fun x hx => ks x (List.mem_of_mem_drop hx)) (fun x hx => kr x (List.mem_of_mem_drop hx)) K2 (fun h => by have := g2 _ h; omega) (fun j hj hg => by have := (O3.lt j hj).1; have := g2 j hg; omega) (fun j hj hg => by have := (O4.lt j hj).1; have := g2 j hg; omega), newF_in fun j hj hw => N j hj (sub j hw), fun j hj => ?_, fun j hj hg => ?_⟩
  · rcases fr j hj with hj | hj
    · exact .inr (by omega)
    · by_cases hjn : j < n
      · exact .inl (N j hjn (.inr (.inr (.inr (s2 j hj)))))
      · exact .inr (by omega)
  · rcases fr j hg with hq' | hq'
    · have := hlt j (sub j hj); omega
    · rcases hj with rfl | hj | hj | hj
      · exact np (s2 _ hq')
      · exact nk j hj (s2 j hq')
      · exact nc j hj (s2 j hq')
      · exact hd j hj hq'
theorem halves_nsmall {ks : List Ky} (h6 : ks.length ≤ 6) : halves (h + 1) ((ks, ts) : Tr V (h + 1)) = ((ks, ts), none) := if_pos h6
theorem halves_nbig (h6 : 6 < K.length) : halves (h + 1) ((K.map Prod.snd, ts) : Tr V (h + 1)) = (((K.take (K.length / 2)).map Prod.snd, ts.take (K.length / 2 + 1)), some ((K.getD (K.length / 2) default).2, ((K.drop (K.length / 2 + 1)).map Prod.snd, ts.drop (K.length / 2 + 1)))) := by
  have hh : ¬ (K.map Prod.snd).length ≤ 6 := by simp; omega
  show (if (K.map Prod.snd).length ≤ 6 then _ else _) = _
  rw [if_neg hh]
  have e1 : (K.map Prod.snd).length = K.length := by simp
  have hl : K.length / 2 < K.length := by omega
  have e2 : (K.map Prod.snd).getD (K.length / 2) [] = (K.getD (K.length / 2) default).2 := getD_map9 hl
  show ((((K.map Prod.snd).take ((K.map Prod.snd).length / 2), ts.take ((K.map Prod.snd).length / 2 + 1)) : Tr V (h + 1)), some ((K.map Prod.snd).getD ((K.map Prod.snd).length / 2) [], (((K.map Prod.snd).drop ((K.map Prod.snd).length / 2 + 1), ts.drop ((K.map Prod.snd).length / 2 + 1)) : Tr V (h + 1)))) = _
  rw [e1, e2, List.map_take, List.map_drop]
theorem put_none (hc : ts[way (K.map Prod.snd) k]? = some c) (hr : (putT h k x c).2.2 = none) : putT (h + 1) k x ((K.map Prod.snd, ts) : Tr V (h + 1)) = ((putT h k x c).1, halves (h + 1) ((K.map Prod.snd, ts.set (way (K.map Prod.snd) k) (putT h k x c).2.1) : Tr V (h + 1))) := by
  have e : ts.getD (way (K.map Prod.snd) k) default = c := by rw [List.getD_eq_getElem?_getD, hc]; rfl
  rw [puts, e, hr]; rfl
theorem put_some (hc : ts[way (K.map Prod.snd) k]? = some c) (hr : (putT h k x c).2.2 = some (y, t2)) (hi : way (K.map Prod.snd) k ≤ K.length) : putT (h + 1) k x ((K.map Prod.snd, ts) : Tr V (h + 1)) = ((putT h k x c).1, halves (h + 1) (((K.insertIdx (way (K.map Prod.snd) k) (u, y)).map Prod.snd, (ts.set (way (K.map Prod.snd) k) (putT h k x c).2.1).insertIdx (way (K.map Prod.snd) k + 1) t2) : Tr V (h + 1))) := by
  have e : ts.getD (way (K.map Prod.snd) k) default = c := by rw [List.getD_eq_getElem?_getD, hc]; rfl
  rw [puts, e, hr, ← map_ins9 (f := Prod.snd) hi]; rfl
theorem outR_none {X : Tr V h × Option (Ky × Tr V h)} (hr : X.2.isSome = false) (O : OutR κ R w n W h p X u m) : X.2 = none ∧ u = nilV ∧ m = .pointer none ∧ ∃ W', TreeR κ R w h p X.1 W' ∧ NewF n W W' := by
  obtain ⟨t, o⟩ := X
  cases o with
  | none => obtain ⟨h1, h2, h3⟩ := O; exact ⟨rfl, h1, h2, h3⟩
  | some o => cases hr
theorem outR_some {X : Tr V h × Option (Ky × Tr V h)} (hr : X.2.isSome = true) (O : OutR κ R w n W h p X u m) : ∃ y t2 q W' W2, X.2 = some (y, t2) ∧ m = ptr q 0 ∧ Own w 0 5 1 u y.length (y.map u8v) ∧ (∀ j, Bl u j → R j) ∧ TreeR κ R w h p X.1 W' ∧ TreeR κ R w h q t2 W2 ∧ NewF n W W' ∧ NewF n W W2 ∧ Dj W' W2 := by
  obtain ⟨t, o⟩ := X
  cases o with
  | none => cases hr
  | some o => obtain ⟨y, t2⟩ := o; obtain ⟨q, W', W2, h⟩ := O; exact ⟨y, t2, q, W', W2, rfl, h⟩
theorem kks_ins {d : DK} {Q : DK → Prop} (ks : ∀ x9 ∈ K, Q x9) (hd : Q d) (hi : i ≤ K.length) : ∀ x9 ∈ K.insertIdx i d, Q x9 := fun x hx => by
  rw [insIdx d hi, List.mem_append, List.mem_cons] at hx
  rcases hx with hx | rfl | hx
  · exact ks _ (List.mem_of_mem_take hx)
  · exact hd
  · exact ks _ (List.mem_of_mem_drop hx)
end
end Go.Gx

/- Small laws for walks, the thirty-third part: a region of open order with great operations that are not all in a row: each order of them is told, the light ones come at any time. -/
namespace Go.Gx
open Go.RowKit
section
variable {P : Program} {ol : List Oper} {Q : Exit → Act → World → Prop} {bigs : List Nat} {φ : Nat → Value → Prop} {G : World → Prop} {a0 : Act} {N : Nat}
def PhT (bigs : List Nat) (φ : Nat → Value → Prop) (e : List (Nat × Value)) (j : Nat) (u : Value) : Prop := (bigs.contains j = true → e.lookup j = some u) ∧ (bigs.contains j = false → φ j u)
theorem PhT.mono {e : List (Nat × Value)} {i j : Nat} {v u : Value} (hij : j ≠ i) (h : PhT bigs φ e j u) : PhT bigs φ ((i, v) :: e) j u :=
  ⟨fun hb => by rw [List.lookup_cons, beq_false_of_ne hij]; exact h.1 hb, h.2⟩
structure TInv (ol : List Oper) (bigs : List Nat) (φ : Nat → Value → Prop) (a0 : Act) (N : Nat) (listed : Array Bool) (todo : List Nat) (e : List (Nat × Value)) (a : Act) : Prop where
  size : a.tmps.size = N
  defers : a.defers = a0.defers
  base : ∀ t, (∀ j o, ol[j]? = some o → listed.getD j true = true → o.dst ≠ some t) → a.tmps.getD t undef = a0.tmps.getD t undef
  phi : ∀ j o d, ol[j]? = some o → listed.getD j true = true → o.dst = some d → PhT bigs φ e j (a.tmps.getD d undef)
  closed : ∀ j o, ol[j]? = some o → listed.getD j true = true → ∀ x ∈ o.after, Region.binds .any x = true → listed.getD x.on false = true
  lsize : listed.size = ol.length
  todos : ∀ i, i ∈ todo ↔ i ∈ bigs ∧ listed.getD i true = false
  nodup : List.Nodup todo
def KI (P : Program) (ol : List Oper) (bigs : List Nat) (φ : Nat → Value → Prop) (G : World → Prop) (a0 : Act) (N : Nat) (e : List (Nat × Value)) (i : Nat) (w : World) (K : Value → World → Prop) : Prop :=
  ∀ w1, w.grownBy w1 none → G w1 → ∀ a, a.tmps.size = N → (∀ t, safeB ol i t = true → a.tmps.getD t undef = a0.tmps.getD t undef) → (∀ j oj d, depB ol i j = true → ol[j]? = some oj → oj.dst = some d → PhT bigs φ e j (a.tmps.getD d undef)) →
    ∀ o, ol[i]? = some o → wpList P ol.toArray (fun ex a' w' => ex = .normal ∧ ∃ v, ((o.dst = none ∧ a' = a) ∨ ∃ d, o.dst = some d ∧ a' = putsL a [(d, v)]) ∧ K v w' ∧ G w') [o] (putsL a []) w1
def readyT (ol : List Oper) (todo : List Nat) : List Nat := todo.filter fun i => todo.all fun j => !depB ol i j
def KT (P : Program) (ol : List Oper) (bigs : List Nat) (φ : Nat → Value → Prop) (G : World → Prop) (a0 : Act) (N : Nat) (Q : Exit → Act → World → Prop) : Nat → List Nat → List (Nat × Value) → World → Prop
  | 0, _, e, w => ∀ w1, w.grownBy w1 none → ∀ a', a'.tmps.size = N → a'.defers = a0.defers → (∀ t, (ol.all fun o => o.dst != some t) = true → a'.tmps.getD t undef = a0.tmps.getD t undef) →
      (∀ j oj d, ol[j]? = some oj → oj.dst = some d → PhT bigs φ e j (a'.tmps.getD d undef)) → Q .normal (putsL a' []) w1
  | n + 1, todo, e, w => ∀ i ∈ readyT ol todo, KI P ol bigs φ G a0 N e i w fun v w' => KT P ol bigs φ G a0 N Q n (todo.erase i) ((i, v) :: e) w'
theorem KT.stable : ∀ {n : Nat} {todo : List Nat} {e : List (Nat × Value)} {w w2 : World}, KT P ol bigs φ G a0 N Q n todo e w → w.grownBy w2 none → KT P ol bigs φ G a0 N Q n todo e w2
  | 0, _, _, _, _, h, E => fun w1 E1 => h w1 (grown_trans E E1)
  | _ + 1, _, _, _, _, h, E => fun i hi w1 E1 => h i hi w1 (grown_trans E E1)
def ObR9 (P : Program) (ol : List Oper) (bigs : List Nat) (φ : Nat → Value → Prop) (G : World → Prop) (a0 : Act) (N : Nat) (i : Nat) (o : Oper) : Prop :=
  ∀ (e : List (Nat × Value)) (a : Act) (w : World), a.tmps.size = N → G w → (∀ t, safeB ol i t = true → a.tmps.getD t undef = a0.tmps.getD t undef) → (∀ j oj d, depB ol i j = true → ol[j]? = some oj → oj.dst = some d → PhT bigs φ e j (a.tmps.getD d undef)) →
    wpList P ol.toArray (fun ex a' w' => ex = .normal ∧ (∃ d v, o.dst = some d ∧ a' = putsL a [(d, v)] ∧ φ i v) ∧ w.grownBy w' none) [o] (putsL a []) w
def ObRs9 (P : Program) (ol : List Oper) (bigs : List Nat) (φ : Nat → Value → Prop) (G : World → Prop) (a0 : Act) (N : Nat) : Nat → List Oper → Prop
  | _, [] => True
  | i, o :: r => (bigs.contains i = false → ObR9 P ol bigs φ G a0 N i o) ∧ ObRs9 P ol bigs φ G a0 N (i + 1) r
theorem ObRs9.nil {i : Nat} : ObRs9 P ol bigs φ G a0 N i [] := trivial
theorem ObRs9.cons {i : Nat} {o : Oper} {r : List Oper} (h : ObR9 P ol bigs φ G a0 N i o) (h' : ObRs9 P ol bigs φ G a0 N (i + 1) r) : ObRs9 P ol bigs φ G a0 N i (o :: r) := ⟨fun _ => h, h'⟩
theorem ObRs9.pass {i : Nat} {o : Oper} {r : List Oper} (hh : bigs.contains i = true) (h' : ObRs9 P ol bigs φ G a0 N (i + 1) r) : ObRs9 P ol bigs φ G a0 N i (o :: r) := ⟨fun h => absurd (hh.symm.trans h) (by decide), h'⟩
theorem ObRs9.getx : ∀ {l : List Oper} {i : Nat}, ObRs9 P ol bigs φ G a0 N i l → ∀ j o, l[j]? = some o → bigs.contains (i + j) = false → ObR9 P ol bigs φ G a0 N (i + j) o
  | [], _, _, j, o, h, _ => by simp at h
  | o' :: r, i, h, 0, o, hj, hs => by simp at hj; subst hj; exact h.1 hs
  | o' :: r, i, h, j + 1, o, hj, hs => by
    have := ObRs9.getx h.2 j o (by simpa using hj) (by rwa [show i + 1 + j = i + (j + 1) by omega])
    rwa [show i + 1 + j = i + (j + 1) by omega] at this
theorem one_mem {p : Nat → Prop} {x : Nat} (h : p x) : ∀ i ∈ [x], p i := fun i hi => by
  obtain rfl : i = x := by simpa using hi
  exact h
theorem more_mem {p : Nat → Prop} {x y : Nat} {r : List Nat} (h : p x) (h' : ∀ i ∈ y :: r, p i) : ∀ i ∈ x :: y :: r, p i := List.forall_mem_cons.2 ⟨h, h'⟩
end
end Go.Gx

/- Small laws for walks, the forty-first part: as the thirty-third, where what light operations look at may end with one of the great ones. -/
namespace Go.Gx
open Go.RowKit
section
variable {P : Program} {ol : List Oper} {Q : Exit → Act → World → Prop} {bigs : List Nat} {φ : Nat → Value → Prop} {G : List Nat → World → Prop} {a0 : Act} {N : Nat}
def KIk (P : Program) (ol : List Oper) (bigs : List Nat) (φ : Nat → Value → Prop) (G : List Nat → World → Prop) (a0 : Act) (N : Nat) (e : List (Nat × Value)) (todo : List Nat) (i : Nat) (w : World) (K : Value → World → Prop) : Prop :=
  ∀ w1, w.grownBy w1 none → G todo w1 → ∀ a, a.tmps.size = N → (∀ t, safeB ol i t = true → a.tmps.getD t undef = a0.tmps.getD t undef) → (∀ j oj d, depB ol i j = true → ol[j]? = some oj → oj.dst = some d → PhT bigs φ e j (a.tmps.getD d undef)) →
    ∀ o, ol[i]? = some o → wpList P ol.toArray (fun ex a' w' => ex = .normal ∧ ∃ v, ((o.dst = none ∧ a' = a) ∨ ∃ d, o.dst = some d ∧ a' = putsL a [(d, v)]) ∧ K v w' ∧ G (todo.erase i) w') [o] (putsL a []) w1
def KTk (P : Program) (ol : List Oper) (bigs : List Nat) (φ : Nat → Value → Prop) (G : List Nat → World → Prop) (a0 : Act) (N : Nat) (Q : Exit → Act → World → Prop) : Nat → List Nat → List (Nat × Value) → World → Prop
  | 0, _, e, w => ∀ w1, w.grownBy w1 none → ∀ a', a'.tmps.size = N → a'.defers = a0.defers → (∀ t, (ol.all fun o => o.dst != some t) = true → a'.tmps.getD t undef = a0.tmps.getD t undef) →
      (∀ j oj d, ol[j]? = some oj → oj.dst = some d → PhT bigs φ e j (a'.tmps.getD d undef)) → Q .normal (putsL a' []) w1
  | n + 1, todo, e, w => ∀ i ∈ readyT ol todo, KIk P ol bigs φ G a0 N e todo i w fun v w' => KTk P ol bigs φ G a0 N Q n (todo.erase i) ((i, v) :: e) w'
theorem KTk.stable : ∀ {n : Nat} {todo : List Nat} {e : List (Nat × Value)} {w w2 : World}, KTk P ol bigs φ G a0 N Q n todo e w → w.grownBy w2 none → KTk P ol bigs φ G a0 N Q n todo e w2
  | 0, _, _, _, _, h, E => fun w1 E1 => h w1 (grown_trans E E1)
  | _ + 1, _, _, _, _, h, E => fun i hi w1 E1 => h i hi w1 (grown_trans E E1)
def ObQ9 (P : Program) (ol : List Oper) (bigs : List Nat) (φ : Nat → Value → Prop) (G : List Nat → World → Prop) (a0 : Act) (N : Nat) (i : Nat) (o : Oper) : Prop :=
  ∀ (e : List (Nat × Value)) (todo : List Nat) (a : Act) (w : World), a.tmps.size = N → (∀ j, bigs.contains j = true → depB ol j i = true → j ∈ todo) → G todo w → (∀ t, safeB ol i t = true → a.tmps.getD t undef = a0.tmps.getD t undef) → (∀ j oj d, depB ol i j = true → ol[j]? = some oj → oj.dst = some d → PhT bigs φ e j (a.tmps.getD d undef)) →
    wpList P ol.toArray (fun ex a' w' => ex = .normal ∧ (∃ d v, o.dst = some d ∧ a' = putsL a [(d, v)] ∧ φ i v) ∧ w.grownBy w' none) [o] (putsL a []) w
def ObRk9 (P : Program) (ol : List Oper) (bigs : List Nat) (φ : Nat → Value → Prop) (G : List Nat → World → Prop) (a0 : Act) (N : Nat) : Nat → List Oper → Prop
  | _, [] => True
  | i, o :: r => (bigs.contains i = false → ObQ9 P ol bigs φ G a0 N i o) ∧ ObRk9 P ol bigs φ G a0 N (i + 1) r
theorem ObRk9.nil {i : Nat} : ObRk9 P ol bigs φ G a0 N i [] := trivial
theorem ObRk9.cons {i : Nat} {o : Oper} {r : List Oper} (h : ObQ9 P ol bigs φ G a0 N i o) (h' : ObRk9 P ol bigs φ G a0 N (i + 1) r) : ObRk9 P ol bigs φ G a0 N i (o :: r) := ⟨fun _ => h, h'⟩
theorem ObRk9.pass {i : Nat} {o : Oper} {r : List Oper} (hh : bigs.contains i = true) (h' : ObRk9 P ol bigs φ G a0 N (i + 1) r) : ObRk9 P ol bigs φ G a0 N i (o :: r) := ⟨fun h => absurd (hh.symm.trans h) (by decide), h'⟩
theorem ObRk9.getx : ∀ {l : List Oper} {i : Nat}, ObRk9 P ol bigs φ G a0 N i l → ∀ j o, l[j]? = some o → bigs.contains (i + j) = false → ObQ9 P ol bigs φ G a0 N (i + j) o
  | [], _, _, j, o, h, _ => by simp at h
  | o' :: r, i, h, 0, o, hj, hs => by simp at hj; subst hj; exact h.1 hs
  | o' :: r, i, h, j + 1, o, hj, hs => by
    have := ObRk9.getx h.2 j o (by simpa using hj) (by rwa [show i + 1 + j = i + (j + 1) by omega])
    rwa [show i + 1 + j = i + (j + 1) by omega] at this
theorem region_treek_steps (hlex : lexB' ol = true) (hdn : dstNB ol N = true) (hdst : dstsB ol = true) (hbl : (bigs.all fun i => Nat.blt i ol.length) = true)
    (hG : ∀ t w1 w2, w1.grownBy w2 none → G t w1 → G t w2) (obL : ∀ i o, ol[i]? = some o → bigs.contains i = false → ObQ9 P ol bigs φ G a0 N i o) :
    ∀ (fuel : Nat) (listed : Array Bool) (todo : List Nat) (e : List (Nat × Value)) (a : Act) (w : World), TInv ol bigs φ a0 N listed todo e a → KTk P ol bigs φ G a0 N Q todo.length todo e w → G todo w → (List.range ol.length).countP (fun i => !listed.getD i true) ≤ fuel → wpAny P .any ol.toArray Q fuel listed a w := by
  have done : ∀ (listed : Array Bool) (todo : List Nat) (e : List (Nat × Value)) (a : Act) (w : World), TInv ol bigs φ a0 N listed todo e a → KTk P ol bigs φ G a0 N Q todo.length todo e w → Region.ready .any ol.toArray listed = [] → Q .normal a w := by
    intro listed todo ee a w I hk hr
    have hall : ∀ i, i < ol.length → listed.getD i true = true := by
      intro i
      induction i using Nat.strongRecOn with
      | _ i ih =>
        intro hi
        by_cases hq : listed.getD i true = true
        · exact hq
        · exfalso
          have hm : i ∈ Region.ready .any ol.toArray listed := by
            rw [mem_ready]
            refine ⟨by simpa using hq, ol[i], by simp [hi], fun e he hb => ?_⟩
            have h1 := List.all_eq_true.1 hlex i (by simp [hi])
            simp only [List.getElem?_eq_getElem hi, Array.all_eq_true_iff_forall_mem, Bool.or_eq_true, Bool.not_eq_true', Nat.blt_eq] at h1
            have h2 := (h1 e he).resolve_left (by simp [hb])
            exact getD_true_lt (ih e.on h2 (by omega)) (by rw [I.lsize]; omega)
          rw [hr] at hm
          cases hm
    have ht : todo = [] := by
      rw [List.eq_nil_iff_forall_not_mem]
      intro i hi
      obtain ⟨hb, hl⟩ := (I.todos i).1 hi
      have := List.all_eq_true.1 hbl i hb
      rw [hall i (by simpa [Nat.blt_eq] using this)] at hl
      cases hl
    subst ht
    exact hk w (grown_refl _ _) a I.size I.defers (fun t ht => I.base t fun j o hj _ hd' => by
      have := List.all_eq_true.1 ht o (List.mem_of_getElem? hj)
      simp [hd'] at this) (fun j oj d hj hd' => I.phi j oj d hj (hall j (List.getElem?_eq_some_iff.1 hj).1) hd')
  intro fuel
  induction fuel with
  | zero =>
    intro listed todo ee a w I hk hg hcnt
    have hr : Region.ready .any ol.toArray listed = [] := by
      rw [List.eq_nil_iff_forall_not_mem]
      intro i hi
      obtain ⟨h1, o, ho, _⟩ := mem_ready.1 hi
      have hlt : i < ol.length := by simpa using (Array.getElem?_eq_some_iff.1 ho).1
      have hz : (List.range ol.length).countP (fun i => !listed.getD i true) = 0 := by omega
      rw [List.countP_eq_zero] at hz
      exact hz i (by simp [hlt]) (by simp [h1])
    exact ⟨hr, done listed todo ee a w I hk hr⟩
  | succ fuel ih =>
    intro listed todo ee a w I hk hg hcnt
    refine ⟨fun hr => done listed todo ee a w I hk hr, fun i hi => ?_⟩
    obtain ⟨hun, o, ho, hwait⟩ := mem_ready.1 hi
    have ho' : ol[i]? = some o := by simpa using ho
    have hlt : i < ol.length := (List.getElem?_eq_some_iff.1 ho').1
    have hls : i < listed.size := by rw [I.lsize]; exact hlt
    have hcnt' : (List.range ol.length).countP (fun j => !(listed.setIfInBounds i true).getD j true) ≤ fuel := by
      have : (List.range ol.length).countP (fun j => !(listed.setIfInBounds i true).getD j true) < (List.range ol.length).countP (fun j => !listed.getD j true) := by
        refine countP_lt _ _ (fun y hy => ?_) _ i (by simp [hlt]) (by simp [hun]) (by simp [Array.getD_eq_getD_getElem?, hls])
        by_cases hiy : i = y
        · subst hiy; simp [Array.getD_eq_getD_getElem?, hls] at hy
        · rwa [getD_set_ne true hiy] at hy
      omega
    have hbase : ∀ t, safeB ol i t = true → a.tmps.getD t undef = a0.tmps.getD t undef := by
      intro t ht
      refine I.base t fun j oj hj hlj hd => ?_
      have h1 := List.all_eq_true.1 ht oj (List.mem_of_getElem? hj)
      simp only [Bool.or_eq_true, bne_iff_ne, ne_eq, Array.any_eq_true, Bool.and_eq_true, beq_iff_eq] at h1
      rcases h1 with h1 | ⟨q, hq, h1, h2⟩
      · exact h1 hd
      · have := getD_of_false (I.closed j oj hj hlj _ (Array.getElem_mem hq) h2)
        rw [h1, hun] at this
        cases this
    have hdep : ∀ j oj d, depB ol i j = true → ol[j]? = some oj → oj.dst = some d → PhT bigs φ ee j (a.tmps.getD d undef) := by
      intro j oj d hj hoj hd
      obtain ⟨e, he, h1, h2⟩ := depB_spec ho' hj
      exact I.phi j oj d hoj (getD_of_false (by rw [← h1]; exact hwait e he h2)) hd
    have hset : ∀ j, j ≠ i → (listed.setIfInBounds i true).getD j true = listed.getD j true := fun j hj => getD_set_ne true (Ne.symm hj)
    have hseti : (listed.setIfInBounds i true).getD i true = true := by simp [Array.getD_eq_getD_getElem?, hls]
    have hclosed : ∀ j oj, ol[j]? = some oj → (listed.setIfInBounds i true).getD j true = true → ∀ e ∈ oj.after, Region.binds .any e = true → (listed.setIfInBounds i true).getD e.on false = true := by
      intro j oj hoj hlj e he hb
      refine getD_set_true ?_
      by_cases hji : j = i
      · subst hji
        rw [ho'] at hoj; cases hoj
        exact hwait e he hb
      · rw [hset j hji] at hlj
        exact I.closed j oj hoj hlj e he hb
    have hne : ∀ j oj d, ol[j]? = some oj → j ≠ i → o.dst = some d → oj.dst ≠ some d := by
      intro j oj d hoj hji hd hd'
      have hj : j < ol.length := (List.getElem?_eq_some_iff.1 hoj).1
      have h1 := List.all_eq_true.1 (List.all_eq_true.1 hdst i (by simp [hlt])) j (by simp [hj])
      simp only [ho', hoj, Bool.or_eq_true, beq_iff_eq, bne_iff_ne, ne_eq] at h1
      rcases h1 with h1 | h1 | h1
      · exact hji h1.symm
      · exact h1 (by rw [hd, hd'])
      · rw [hd] at h1; cases h1
    -- what is left of the frame, behind a value in slot d
    have hframe : ∀ d v (e' : List (Nat × Value)), o.dst = some d → (∀ j u, j ≠ i → PhT bigs φ ee j u → PhT bigs φ e' j u) → PhT bigs φ e' i v → 
        (∀ t, (∀ j oj, ol[j]? = some oj → (listed.setIfInBounds i true).getD j true = true → oj.dst ≠ some t) → (putsL a [(d, v)]).tmps.getD t undef = a0.tmps.getD t undef) ∧
        (∀ j oj d', ol[j]? = some oj → (listed.setIfInBounds i true).getD j true = true → oj.dst = some d' → PhT bigs φ e' j ((putsL a [(d, v)]).tmps.getD d' undef)) := by
      intro d v e' hd hR hv
      have hdN : d < a.tmps.size := by
        have h1 := List.all_eq_true.1 hdn o (List.mem_of_getElem? ho')
        simp only [hd, Nat.blt_eq] at h1
        rw [I.size]; exact h1
      refine ⟨fun t ht => ?_, fun j oj d' hoj hlj hd' => ?_⟩
      · have hdt : d ≠ t := fun e => ht i o ho' hseti (by rw [hd, e])
        rw [get_put_ne hdt]
        refine I.base t fun j oj hoj hlj => ?_
        by_cases hji : j = i
        · subst hji; rw [hun] at hlj; cases hlj
        · exact ht j oj hoj (by rw [hset j hji]; exact hlj)
      · by_cases hji : j = i
        · subst hji
          rw [ho'] at hoj; cases hoj
          rw [hd] at hd'; cases hd'
          rw [get_put_eq hdN]
          exact hv
        · rw [hset j hji] at hlj
          have : d ≠ d' := fun e => hne j oj d hoj hji hd (by rw [hd', e])
          rw [get_put_ne this]
          exact hR j _ hji (I.phi j oj d' hoj hlj hd')
    by_cases hin : bigs.contains i = true
    · have hmem : i ∈ bigs := by simpa using hin
      have hit : i ∈ todo := (I.todos i).2 ⟨hmem, hun⟩
      have hrt : i ∈ readyT ol todo := by
        unfold readyT
        rw [List.mem_filter]
        refine ⟨hit, List.all_eq_true.2 fun j hj => ?_⟩
        cases hd : depB ol i j with
        | false => rfl
        | true =>
          obtain ⟨x, hx, h1, h2⟩ := depB_spec ho' hd
          have h3 := getD_of_false (hwait x hx h2)
          rw [h1, ((I.todos j).1 hj).2] at h3
          cases h3
      obtain ⟨n, hn⟩ : ∃ n, todo.length = n + 1 := ⟨todo.length - 1, by have := List.length_pos_of_mem hit; omega⟩
      have hn2 : (todo.erase i).length = n := by rw [List.length_erase_of_mem hit, hn]; rfl
      rw [hn] at hk
      have h0 := hk i hrt w (grown_refl _ _) hg a I.size hbase hdep o ho'
      refine wp_one (by simpa using ho') h0 fun a' w' h => ?_
      obtain ⟨v, h1, h2, h3⟩ := h
      have htodo : ∀ x, x ∈ todo.erase i ↔ x ∈ bigs ∧ (listed.setIfInBounds i true).getD x true = false := by
        intro x
        rw [I.nodup.mem_erase_iff, I.todos]
        by_cases hxi : x = i
        · subst hxi; simp [hseti]
        · rw [hset x hxi]; simp [hxi]
      refine ih _ (todo.erase i) ((i, v) :: ee) a' w' ?_ (by rw [hn2]; exact h2) h3 hcnt'
      have hpi : PhT bigs φ ((i, v) :: ee) i v := ⟨fun _ => by simp, fun hh => absurd (hin.symm.trans hh) (by decide)⟩
      rcases h1 with ⟨hd, rfl⟩ | ⟨d, hd, rfl⟩
      · refine ⟨I.size, I.defers, fun t ht => ?_, fun j oj d' hoj hlj hd' => ?_, hclosed, by simp [I.lsize], htodo, I.nodup.erase i⟩
        · refine I.base t fun j oj hoj hlj => ?_
          by_cases hji : j = i
          · subst hji; rw [hun] at hlj; cases hlj
          · exact ht j oj hoj (by rw [hset j hji]; exact hlj)
        · by_cases hji : j = i
          · subst hji
            rw [ho'] at hoj; cases hoj
            rw [hd] at hd'; cases hd'
          · rw [hset j hji] at hlj
            exact PhT.mono hji (I.phi j oj d' hoj hlj hd')
      · obtain ⟨f1, f2⟩ := hframe d v ((i, v) :: ee) hd (fun j u hj h => h.mono hj) hpi
        exact ⟨by rw [putsL_size, I.size], by rw [putsL_defers, I.defers], f1, f2, hclosed, by simp [I.lsize], htodo, I.nodup.erase i⟩
    · have hin' : bigs.contains i = false := by simpa using hin
      have hck : ∀ j, bigs.contains j = true → depB ol j i = true → j ∈ todo := by
        intro j hj hd
        rw [I.todos]
        refine ⟨by simpa using hj, ?_⟩
        cases hl : listed.getD j true with
        | false => rfl
        | true =>
          exfalso
          cases hok : ol[j]? with
          | none => simp [depB, hok] at hd
          | some ok =>
            obtain ⟨x, hx, h4, h5⟩ := depB_spec hok hd
            have h6 := getD_of_false (I.closed j ok hok hl x hx h5)
            rw [h4, hun] at h6; cases h6
      refine wp_one (by simpa using ho') (obL i o ho' hin' ee todo a w I.size hck hg hbase hdep) fun a' w' h => ?_
      obtain ⟨⟨d, v, hd, rfl, hv⟩, hgr⟩ := h
      obtain ⟨f1, f2⟩ := hframe d v ee hd (fun _ _ _ h => h) ⟨fun hh => absurd (hin'.symm.trans hh) (by decide), fun _ => hv⟩
      refine ih _ todo ee _ w' ⟨by rw [putsL_size, I.size], by rw [putsL_defers, I.defers], f1, f2, hclosed, by simp [I.lsize], fun x => ?_, I.nodup⟩ (hk.stable hgr) (hG _ _ _ hgr hg) hcnt'
      rw [I.todos]
      by_cases hxi : x = i
      · subst hxi; simp [hseti, hun]; simpa using hin'
      · rw [hset x hxi]
theorem any_treek (bigs : List Nat) (hlex : lexB' ol = true) (hdn : dstNB ol N = true) (hdst : dstsB ol = true) (hbl : (bigs.all fun i => Nat.blt i ol.length) = true) (hnd : decide bigs.Nodup = true)
    {l : List (Nat × Value)} {w : World} (hN : a0.tmps.size = N) (hG : ∀ t w1 w2, w1.grownBy w2 none → G t w1 → G t w2) (g0 : G bigs w) (obL : ObRk9 P ol bigs φ G (putsL a0 l) N 0 ol) (hdf : (putsL a0 l).defers = a0.defers)
    (main : KTk P ol bigs φ G (putsL a0 l) N Q bigs.length bigs [] w) : RegAny P ol Q (putsL a0 l) w := by
  have hd : w.grownBy { w with drawn := w.drawn + 1 } none := ⟨rfl, rfl, rfl, Nat.le_refl _, fun _ _ _ => rfl⟩
  have I : TInv ol bigs φ (putsL a0 l) N (Array.replicate ol.length false) bigs [] (putsL a0 l) := by
    refine ⟨slN hN, rfl, fun _ _ => rfl, fun j o d hj hl => ?_, fun j o hj hl => ?_, by simp, fun i => ⟨fun hi => ⟨hi, ?_⟩, fun hi => hi.1⟩, of_decide_eq_true hnd⟩
    · have : j < ol.length := (List.getElem?_eq_some_iff.1 hj).1
      simp [Array.getD_eq_getD_getElem?, this] at hl
    · have : j < ol.length := (List.getElem?_eq_some_iff.1 hj).1
      simp [Array.getD_eq_getD_getElem?, this] at hl
    · have := List.all_eq_true.1 hbl i hi
      have h3 : i < ol.length := by simpa [Nat.blt_eq] using this
      simp [Array.getD_eq_getD_getElem?, h3]
  exact region_treek_steps (P := P) (Q := Q) hlex hdn hdst hbl hG (fun i o hi hh => by
      have h5 := ObRk9.getx obL i o hi (by rw [Nat.zero_add]; exact hh)
      rw [Nat.zero_add] at h5; exact h5) ol.length (Array.replicate ol.length false) bigs [] (putsL a0 l) _ I (main.stable hd) (hG _ _ _ hd g0) (Nat.le_trans (List.countP_le_length) (by simp))
theorem ktk_step {n : Nat} {todo rs : List Nat} {e : List (Nat × Value)} {w : World} (hr : readyT ol todo = rs) (h : ∀ i ∈ rs, KIk P ol bigs φ G a0 N e todo i w fun v w' => KTk P ol bigs φ G a0 N Q n (todo.erase i) ((i, v) :: e) w') : KTk P ol bigs φ G a0 N Q (n + 1) todo e w := by
  subst hr; exact h
theorem ktk_end {todo : List Nat} {i : Nat} {o : Oper} {d : Nat} {v : Value} {a : Act} {w : World} {K : Value → World → Prop} (hd : o.dst = some d) (g : G (todo.erase i) w) (h : K v w) :
    wpList P ol.toArray (fun ex a' w' => ex = .normal ∧ ∃ v, ((o.dst = none ∧ a' = a) ∨ ∃ d, o.dst = some d ∧ a' = putsL a [(d, v)]) ∧ K v w' ∧ G (todo.erase i) w') [] (putsL a [(d, v)]) w := ⟨rfl, v, .inr ⟨d, hd, rfl⟩, h, g⟩
theorem ktk_end0 {todo : List Nat} {i : Nat} {o : Oper} {a : Act} {w : World} {K : Value → World → Prop} (hd : o.dst = none) (g : G (todo.erase i) w) (h : K undef w) :
    wpList P ol.toArray (fun ex a' w' => ex = .normal ∧ ∃ v, ((o.dst = none ∧ a' = a) ∨ ∃ d, o.dst = some d ∧ a' = putsL a [(d, v)]) ∧ K v w' ∧ G (todo.erase i) w') [] (putsL a []) w := ⟨rfl, undef, .inl ⟨hd, rfl⟩, h, g⟩
theorem obTk_end {o : Oper} {i d : Nat} {v : Value} {a : Act} {w : World} (hd : o.dst = some d) (hv : φ i v) :
    wpList P ol.toArray (fun ex a' w' => ex = .normal ∧ (∃ d v, o.dst = some d ∧ a' = putsL a [(d, v)] ∧ φ i v) ∧ w.grownBy w' none) [] (putsL a [(d, v)]) w := ⟨rfl, ⟨d, v, hd, rfl, hv⟩, grown_refl _ _⟩
end
end Go.Gx

/- Small laws for walks, the forty-third part: ways come together behind a piece whose tail is told already. -/
namespace Go.Gx
open Go.RowKit
theorem join_at {P : Program} {Q : Exit → Act → World → Prop} {N : Nat} {G : Prop} {y : Code} {K : Act → World → Prop} (_ : ∀ a w, y.wp P Q a w → K a w) (D : Act → World → Prop) (h1 : (∀ a l w, a.tmps.size = N → a.defers = [] → D (putsL a l) w → y.wp P Q (putsL a l) w) → G) (h2 : ∀ a w, a.tmps.size = N → a.defers = [] → D a w → y.wp P Q (putsL a []) w) : G := h1 fun a l w hN hd h => h2 (putsL a l) w (slN hN) (by rw [putsL_defers, hd]) h
end Go.Gx

/- Walks, written by a program: what each function of the translation hands back. -/
namespace Go.Proofs.Ytcpfdfejojghbaa
open Go.Gx Go.RowKit
attribute [local irreducible] wpList wpStill Code.wp Calls
open Go.Bt
def PutI (h : Nat) : Prop := ∀ ⦃k : List UInt8⦄ ⦃yv : Value⦄ ⦃x : Int⦄ ⦃R W : Nat → Prop⦄ ⦃p : Nat⦄ ⦃t : Tr (Int) h⦄ ⦃w : World⦄, TreeR kI R w h p t W → Ok h t → szT h t ≤ 6 → Own w 0 5 1 yv k.length (k.map u8v) → (∀ j, Bl yv j → R j) →
  Ret Try.prog 48 #[ptr p 0, (Value.agg #[yv, (Value.int .i64 x)])] w (fun v' w' => Gr w w' W ∧ ∃ u m, v' = .tuple #[.bool (putT h k x t).1, u, m] ∧ OutR kI R w' w.heap.size W h p (putT h k x t).2 u m)
def PutS (h : Nat) : Prop := ∀ ⦃k : List UInt8⦄ ⦃yv : Value⦄ ⦃x : List UInt8⦄ ⦃R W : Nat → Prop⦄ ⦃p : Nat⦄ ⦃t : Tr (List UInt8) h⦄ ⦃w : World⦄, TreeR kS R w h p t W → Ok h t → szT h t ≤ 6 → Own w 0 5 1 yv k.length (k.map u8v) → (∀ j, Bl yv j → R j) →
  Ret Try.prog 40 #[ptr p 0, (Value.agg #[yv, (Value.string (bs x))])] w (fun v' w' => Gr w w' W ∧ ∃ u m, v' = .tuple #[.bool (putT h k x t).1, u, m] ∧ OutR kS R w' w.heap.size W h p (putT h k x t).2 u m)
def PutA (h : Nat) : Prop := ∀ ⦃k : List UInt8⦄ ⦃yv : Value⦄ ⦃x : Int × Int⦄ ⦃R W : Nat → Prop⦄ ⦃p : Nat⦄ ⦃t : Tr (Int × Int) h⦄ ⦃w : World⦄, TreeR kA R w h p t W → Ok h t → szT h t ≤ 6 → Own w 0 5 1 yv k.length (k.map u8v) → (∀ j, Bl yv j → R j) →
  Ret Try.prog 43 #[ptr p 0, (Value.agg #[yv, (Value.int .i64 x.1), (Value.int .i64 x.2)])] w (fun v' w' => Gr w w' W ∧ ∃ u m, v' = .tuple #[.bool (putT h k x t).1, u, m] ∧ OutR kA R w' w.heap.size W h p (putT h k x t).2 u m)
theorem putNI {h : Nat} {k : List UInt8} {yv : Value} {x : Int} {R W G : Nat → Prop} {p : Nat} {kv cv : Value} {K : List DK} {P : List Nat} {cs : List (Tr (Int) h)} {w : World} (IH : PutI h) (hNd : NodeR kI R w p kv cv K P G W) (hKs : KidsR kI R w h P cs G) (hO : Nd h (K.map Prod.snd) cs) (hz : ∀ c ∈ cs, okSz h c) (hn : K.length ≤ 6) (hk : Own w 0 5 1 yv k.length (k.map u8v)) (hkr : ∀ j, Bl yv j → R j) : Ret Try.prog 48 #[(ptr p 0), (Value.agg #[yv, (Value.int .i64 x)])] w (fun v' w' => Gr w w' W ∧ ∃ u m, v' = .tuple #[.bool (putT (h + 1) k x ((K.map Prod.snd, cs) : Tr (Int) (h + 1))).1, u, m] ∧ OutR kI R w' w.heap.size W (h + 1) p (putT (h + 1) k x ((K.map Prod.snd, cs) : Tr (Int) (h + 1))).2 u m) := by
 have hx : Bx w p 115 [.slice none 0 0, kv, cv] := hNd.bx
 have ok := hNd.ok
 have oc : Own w 0 69 1 cv P.length (P.flatMap cN) := hNd.oc
 have ks := hNd.ks
 have hs := hO.2.1
 have hi_p := hx.lt
 have hPc : P.length = cs.length := hKs.len
 have hcl : cs.length = K.length + 1 := hO.1.trans (by simp)
 have hPl : P.length = K.length + 1 := hPc.trans hcl
 have hwl : (way (K.map Prod.snd) k) ≤ K.length := by have := way_le (K.map Prod.snd) k; simpa using this
 obtain ⟨c, hc, hcO, hcw⟩ := hO.at (i := (way (K.map Prod.snd) k)) (by simpa using hwl)
 have hic : (way (K.map Prod.snd) k) < cs.length := by omega
 obtain ⟨f, G0, hkid, hrest, hfG, hfs, hGs⟩ := Kids.cutc hKs hc
 have hkid : TreeR kI R w h (P.getD (way (K.map Prod.snd) k) default) c f := hkid
 have hrest : KidsR kI R w h (P.eraseIdx (way (K.map Prod.snd) k)) (cs.eraseIdx (way (K.map Prod.snd) k)) G0 := hrest
 have djpf : ¬ f p := fun q => hNd.np (hfs p q)
 have djpG : ¬ G0 p := fun q => hNd.np (hGs p q)
 have djkf := hNd.nk.mono hfs
 have djkG := hNd.nk.mono hGs
 have djcf := hNd.nc.mono hfs
 have djcG := hNd.nc.mono hGs
 have hb := Gr.refl w W
 refine enter (N := 92) Try.func48 rfl rfl (by simp) fun a0 hN hd hA => ?_
 have s0 : a0.tmps.getD 0 undef = (ptr p 0) := hA 0 (by simp)
 have s1 : a0.tmps.getD 1 undef = (Value.agg #[yv, (Value.int .i64 x)]) := hA 1 (by simp)
 clear hA
 refine seq_any fun K1 hK1 => one_reg (op_box (cs := [yv, (Value.int .i64 x)]) (ev_base hN rfl s1) rfl ?_)
 intro w2 b3 lo_b3 hi_b3 hB5 E4
 have dj6 : ¬ f b3 := fun hf => by have := (hkid.lt _ hf).2; omega
 have z_w2 := E4.size
 have hx := hx.keep0 E4
 have ok := ok.keep0 E4
 have oc := oc.keep0 E4
 have ks := all9 ks fun _ h => h.keep0 E4
 have hk := hk.keep0 E4
 have hkid := hkid.keepG (Gr.of0 E4 NoB) (fun _ _ h => h) (NoK.no _)
 have hrest := hrest.keepG (Gr.of0 E4 NoB) (fun _ _ h => h) (NoK.no _)
 have hb := hb.step0 E4
 refine op_assign rfl (op_assign rfl (op_assign rfl ?_))
 refine reg_nil (hK1 _ _ (seq_any fun K8 hK8 => seq_any fun K9 hK9 => one_reg (op_move (ev_base hN rfl s0) (op_fn (vs := [(ptr p 0)]) ok81 ⟨(ev_hit hN rfl), trivial⟩ (Ret.flip (leafNI hx ok oc (by omega) (by omega))) ?_))))
 rintro _ _ ⟨rfl, rfl⟩
 refine reg_nil (hK9 _ _ (wp_cond_false (ev_hit hN rfl) ?_))
 refine seq_any fun K10 hK10 => one_reg (op_move (ev_base hN rfl s0) (op_field fld51_0 (ev_hit hN rfl) (op_load1 (v := yv) one27 (ev_hit hN rfl) (hB5.cell rfl) (op_fn (vs := [(ptr p 0), yv]) ok84 ⟨(ev_hit hN rfl), ⟨(ev_hit hN rfl), trivial⟩⟩ (wayI hx ok oc ks hs (by omega) (hk.rdw.mono (Nat.zero_le _) (by omega))) ?_))))
 rintro _ w11 ⟨E12, rfl⟩
 have E12 := grown_of_below E12
 have z_w11 := E12.size
 have hx := hx.keep0 E12
 have ok := ok.keep0 E12
 have oc := oc.keep0 E12
 have ks := all9 ks fun _ h => h.keep0 E12
 have hk := hk.keep0 E12
 have hkid := hkid.keepG (Gr.of0 E12 NoB) (fun _ _ h => h) (NoK.no _)
 have hrest := hrest.keepG (Gr.of0 E12 NoB) (fun _ _ h => h) (NoK.no _)
 have hB5 := hB5.keep0 E12
 have hb := hb.step0 E12
 refine op_assign (ev_hit hN rfl) ?_
 refine reg_nil (hK10 _ _ (seq_any fun K13 hK13 => one_reg (op_assign rfl (reg_nil (hK13 _ _ ?_)))))
 refine seq_any fun K14 hK14 => one_reg (op_assign rfl (reg_nil (hK14 _ _ (seq_any fun K15 hK15 => reg_from mixed ?_))))
 intro w17 E16
 have z_w17 := E16.size
 have hx := hx.keep0 E16
 have ok := ok.keep0 E16
 have oc := oc.keep0 E16
 have ks := all9 ks fun _ h => h.keep0 E16
 have hk := hk.keep0 E16
 have hkid := hkid.keepG (Gr.of0 E16 NoB) (fun _ _ h => h) (NoK.no _)
 have hrest := hrest.keepG (Gr.of0 E16 NoB) (fun _ _ h => h) (NoK.no _)
 have hB5 := hB5.keep0 E16
 have hb := hb.step0 E16
 refine from_still (m := 8) 8 (hd := [_, _, _, _, _, _, _, _]) (by kernel_rfl) rfl rfl ?_
 refine st_step rfl (fun _ h9 => op_move (ev_base hN rfl s0) h9) ?_
 refine st_step rfl (fun _ h9 => op_nil (ev_hit hN rfl) h9) ?_
 refine st_step rfl (fun _ h9 => op_field fld115_2 (ev_hit hN rfl) h9) ?_
 refine st_step rfl (fun _ h9 => op_load1 (v := cv) one113 (ev_hit hN rfl) (hx.cell rfl) h9) ?_
 refine st_step rfl (fun _ h9 => op_move (ev_hit hN rfl) h9) ?_
 refine st_index_rd slt113 (ev_hit hN rfl) oc.rdw (ev_hit hN rfl) (by omega) (by omega) ?_
 intro b18 o19 h0b18 h1b18 hc20
 refine st_step rfl (fun _ h9 => op_load1 (v := (ptr (P.getD ((way (K.map Prod.snd) k)) default) 0)) one69 (ev_hit hN rfl) (by have := hc20 0 (ptr (P.getD ((way (K.map Prod.snd) k)) default) 0) (by decide) (el_pn (i := ((way (K.map Prod.snd) k))) (by omega) (by first | omega | (simp only [List.length_drop, List.length_take]; omega))); simpa using this) h9) ?_
 refine st_step rfl (fun _ h9 => op_loadA (cs := [yv, (Value.int .i64 x)]) agg51 rfl (ev_hit hN rfl) (fun j u hu => by rw [Nat.zero_add]; exact hB5.cell hu) h9) ?_
 refine st_nil ?_
 refine from_one (k' := 9) (by kernel_rfl) rfl rfl ?_
 rcases Bool.eq_false_or_eq_true (((putT h k x c).2.2.isSome)) with k55 | k55
 · -- 55T
  refine op_fn (vs := [(ptr (P.getD ((way (K.map Prod.snd) k)) default) 0), (Value.agg #[yv, (Value.int .i64 x)])]) ok48 ⟨(ev_hit hN rfl), ⟨(ev_hit hN rfl), trivial⟩⟩ (IH hkid hcO (by have := (hz c (List.mem_of_getElem? hc)).2; omega) hk hkr) ?_
  rintro _ w22 ⟨E23, u21, m21, rfl, ho21⟩
  have bd24 := hx.lt
  have bd25 := ok.lt
  have bd26 := oc.lt
  have bd27 := hk.lt
  have bd28 := hrest.lt
  have bd29 := hB5.lt
  obtain ⟨y21, t2_21, q21, W1_21, W2_21, hr21, rfl, hu21, hur21, hT21, hT2_21, hN1_21, hN2_21, hd21⟩ := outR_some k55 ho21
  have hkid_old := hkid
  have z_w22 := E23.size
  have hx := hx.keepG E23 djpf
  have ok := ok.keepG E23 djkf
  have oc := oc.keepG E23 djcf
  have ks : ∀ x9 ∈ K, Own w22 0 5 1 x9.1 x9.2.length (x9.2.map u8v) := fun x9 hx9 => (ks x9 hx9).keepG E23 (hkid_old.notOwn (ks x9 hx9) (by decide) (by decide) (by decide) (by decide))
  have hk := hk.keepG E23 (hkid_old.notOwn hk (by decide) (by decide) (by decide) (by decide))
  have hrest := hrest.keepG E23 hfG.symm (hkid_old.noK kI_fine)
  have hB5 := hB5.keepG E23 dj6
  have hb := hb.stepF E23 (fun k _ h => hNd.wg k (hfs k h))
  have dj30 : ¬ W1_21 p := ne_stepF hN1_21 bd24 djpf
  have dj31 : Dj (Bl kv) W1_21 := Dj.stepF hN1_21 (fun k hk => (bd25 k hk).2) djkf
  have dj32 : Dj (Bl cv) W1_21 := Dj.stepF hN1_21 (fun k hk => (bd26 k hk).2) djcf
  have dj34 : Dj G0 W1_21 := Dj.stepF hN1_21 (fun k hk => (bd28 k hk).2) hfG.symm
  have dj36 : ¬ W2_21 p := ne_stepF hN2_21 bd24 djpf
  have dj37 : Dj (Bl kv) W2_21 := Dj.stepF hN2_21 (fun k hk => (bd25 k hk).2) djkf
  have dj38 : Dj (Bl cv) W2_21 := Dj.stepF hN2_21 (fun k hk => (bd26 k hk).2) djcf
  have dj40 : Dj G0 W2_21 := Dj.stepF hN2_21 (fun k hk => (bd28 k hk).2) hfG.symm
  have hin42 := in_newF (hN1_21.mono (t := w.heap.size) (by omega)) (fun k hk => hNd.wg k (hfs k hk))
  have hin43 := in_newF (hN2_21.mono (t := w.heap.size) (by omega)) (fun k hk => hNd.wg k (hfs k hk))
  refine from_next ?_
  refine from_still (m := 16) 7 (hd := [_, _, _, _, _, _, _]) (by kernel_rfl) rfl rfl ?_
  refine st_step rfl (fun _ h9 => op_move (ev_hit hN rfl) h9) ?_
  refine st_step rfl (fun _ h9 => op_extract (ev_hit hN rfl) rfl h9) ?_
  refine st_step rfl (fun _ h9 => op_extract (ev_hit hN rfl) rfl h9) ?_
  refine st_step rfl (fun _ h9 => op_extract (ev_hit hN rfl) rfl h9) ?_
  refine st_step rfl (fun _ h9 => op_assign (ev_hit hN rfl) h9) ?_
  refine st_step rfl (fun _ h9 => op_assign (ev_hit hN rfl) h9) ?_
  refine st_step rfl (fun _ h9 => op_assign (ev_hit hN rfl) h9) ?_
  refine st_nil ?_
  refine from_end ?_ rfl
  refine hK15 _ _ (join_at hK8 (N := 92) (fun az_ w' => ∃ (vk vc : Value), (az_.tmps.getD 0 undef = (ptr p 0)) ∧ (az_.tmps.getD 4 undef = (Value.bool (putT h k x c).1)) ∧ (az_.tmps.getD 5 undef = (Value.slice none 0 0)) ∧ (az_.tmps.getD 6 undef = (Value.pointer none)) ∧ (Dj (Bl vk) G0) ∧ (Dj (Bl vk) W1_21) ∧ (Dj (Bl vk) W2_21) ∧ (∀ j, j < w.heap.size → Bl vk j → W j) ∧ (Dj (Bl vc) G0) ∧ (Dj (Bl vc) W1_21) ∧ (Dj (Bl vc) W2_21) ∧ (∀ j, j < w.heap.size → Bl vc j → W j) ∧ (Gr w w' W) ∧ (w22.heap.size ≤ w'.heap.size) ∧ (∀ x9 ∈ K, Own w' 0 5 1 x9.1 x9.2.length (x9.2.map u8v)) ∧ (Own w' 0 5 1 yv k.length (k.map u8v)) ∧ (KidsR kI R w' h (P.eraseIdx (way (K.map Prod.snd) k)) (cs.eraseIdx (way (K.map Prod.snd) k)) G0) ∧ (Bx w' b3 51 [yv, (Value.int .i64 x)]) ∧ (TreeR kI R w' h (P.getD (way (K.map Prod.snd) k) default) (putT h k x c).2.1 W1_21) ∧ (TreeR kI R w' h q21 t2_21 W2_21) ∧ (Own w' 0 5 1 u21 y21.length (y21.map u8v)) ∧ (Own w' 0 27 1 vk (K.insertIdx (way (K.map Prod.snd) k) (u21, y21)).length ((K.insertIdx (way (K.map Prod.snd) k) (u21, y21)).flatMap cK)) ∧ (Own w' 0 69 1 vc (P.insertIdx ((way (K.map Prod.snd) k) + 1) q21).length ((P.insertIdx ((way (K.map Prod.snd) k) + 1) q21).flatMap cN)) ∧ (Bx w' p 115 [(Value.slice none 0 0), vk, vc])) (fun hJ53 => ?_) ?_)
  ·
   refine seq_any fun K56 hK56 => one_reg (op_move (ev_hit hN rfl) (op_pne_some ptrt69 (ev_hit hN rfl) rfl ?_))
   refine reg_nil (hK56 _ _ (wp_cond_true (ev_hit hN rfl) ?_))
   refine reg_split (hd := [_, _, _, _, _, _, _, _, _, _, _, _, _, _, _, _, _, _, _, _, _, _]) (tl := _) 22 mixed (by kernel_rfl) rfl rfl ?_
   refine any_treek (φ := phiV [(fun uz => uz = (ptr p 0)), (fun uz => uz = (ptr p 0)), (fun uz => uz = (ptr p 0)), (fun uz => uz = (ptr p 0)), (fun uz => uz = (ptr p 1)), (fun uz => uz = kv), (fun uz => uz = (Value.int .i64 (((way (K.map Prod.snd) k) : Nat) : Int))), (fun uz => uz = u21), (fun _ => True), (fun _ => True), (fun uz => uz = (ptr p 0)), (fun uz => uz = (ptr p 0)), (fun uz => uz = (ptr p 2)), (fun uz => uz = cv), (fun uz => uz = (Value.int .i64 (((way (K.map Prod.snd) k) : Nat) : Int))), (fun uz => uz = (Value.int .i64 ((((way (K.map Prod.snd) k) : Nat) : Int) + 1))), (fun uz => uz = (ptr q21 0)), (fun _ => True), (fun _ => True), (fun uz => uz = (ptr p 0)), (fun uz => uz = (ptr p 1)), (fun _ => True)]) (G := fun t9 w' => 21 ∈ t9 → (Bx w' p 115 [(Value.slice none 0 0), kv, cv])) [8, 9, 17, 18, 21] (by kernel_rfl) (by kernel_rfl) (by kernel_rfl) (by kernel_rfl) (by kernel_rfl) hN (fun _ w1 w2 E h hc9 => (h hc9).keep0 E) (fun _ => hx) (ObRk9.cons ?_ (ObRk9.cons ?_ (ObRk9.cons ?_ (ObRk9.cons ?_ (ObRk9.cons ?_ (ObRk9.cons ?_ (ObRk9.cons ?_ (ObRk9.cons ?_ (ObRk9.pass rfl (ObRk9.pass rfl (ObRk9.cons ?_ (ObRk9.cons ?_ (ObRk9.cons ?_ (ObRk9.cons ?_ (ObRk9.cons ?_ (ObRk9.cons ?_ (ObRk9.cons ?_ (ObRk9.pass rfl (ObRk9.pass rfl (ObRk9.cons ?_ (ObRk9.cons ?_ (ObRk9.pass rfl (ObRk9.nil))))))))))))))))))))))) (by simp only [putsL_defers]) ?_
   ·
    intro eA tA aA wA hNA hckA hGA hbsA hdpA
    have qA_0 := (hbsA 0 rfl).trans (sl_base hN rfl s0)
    refine op_move (ev_base hNA rfl qA_0) ?_
    exact obTk_end rfl rfl
   ·
    intro eA tA aA wA hNA hckA hGA hbsA hdpA
    have qA_0 := (hbsA 0 rfl).trans (sl_base hN rfl s0)
    refine op_move (ev_base hNA rfl qA_0) ?_
    exact obTk_end rfl rfl
   ·
    intro eA tA aA wA hNA hckA hGA hbsA hdpA
    have qA_0 := (hbsA 0 rfl).trans (sl_base hN rfl s0)
    refine op_move (ev_base hNA rfl qA_0) ?_
    exact obTk_end rfl rfl
   ·
    intro eA tA aA wA hNA hckA hGA hbsA hdpA
    have qA_63 : Sl aA 63 (ptr p 0) := (hdpA 2 _ 63 (by kernel_rfl) rfl rfl).2 rfl
    refine op_nil (ev_base hNA rfl qA_63) ?_
    exact obTk_end rfl rfl
   ·
    intro eA tA aA wA hNA hckA hGA hbsA hdpA
    have qA_64 : Sl aA 64 (ptr p 0) := (hdpA 3 _ 64 (by kernel_rfl) rfl rfl).2 rfl
    refine op_field fld115_1 (ev_base hNA rfl qA_64) ?_
    exact obTk_end rfl rfl
   ·
    intro eA tA aA wA hNA hckA hGA hbsA hdpA
    have qA_65 : Sl aA 65 (ptr p 1) := (hdpA 4 _ 65 (by kernel_rfl) rfl rfl).2 rfl
    have hGA := hGA (hckA 21 rfl (by kernel_rfl))
    refine op_load1 (v := kv) one90 (ev_base hNA rfl qA_65) (hGA.cell rfl) ?_
    exact obTk_end rfl rfl
   ·
    intro eA tA aA wA hNA hckA hGA hbsA hdpA
    have qA_9 := (hbsA 9 rfl).trans (sl_hit hN rfl)
    refine op_move (ev_base hNA rfl qA_9) ?_
    exact obTk_end rfl rfl
   ·
    intro eA tA aA wA hNA hckA hGA hbsA hdpA
    have qA_10 := (hbsA 10 rfl).trans (sl_hit hN rfl)
    refine op_move (ev_base hNA rfl qA_10) ?_
    exact obTk_end rfl rfl
   ·
    intro eA tA aA wA hNA hckA hGA hbsA hdpA
    have qA_0 := (hbsA 0 rfl).trans (sl_base hN rfl s0)
    refine op_move (ev_base hNA rfl qA_0) ?_
    exact obTk_end rfl rfl
   ·
    intro eA tA aA wA hNA hckA hGA hbsA hdpA
    have qA_71 : Sl aA 71 (ptr p 0) := (hdpA 10 _ 71 (by kernel_rfl) rfl rfl).2 rfl
    refine op_nil (ev_base hNA rfl qA_71) ?_
    exact obTk_end rfl rfl
   ·
    intro eA tA aA wA hNA hckA hGA hbsA hdpA
    have qA_72 : Sl aA 72 (ptr p 0) := (hdpA 11 _ 72 (by kernel_rfl) rfl rfl).2 rfl
    refine op_field fld115_2 (ev_base hNA rfl qA_72) ?_
    exact obTk_end rfl rfl
   ·
    intro eA tA aA wA hNA hckA hGA hbsA hdpA
    have qA_73 : Sl aA 73 (ptr p 2) := (hdpA 12 _ 73 (by kernel_rfl) rfl rfl).2 rfl
    have hGA := hGA (hckA 21 rfl (by kernel_rfl))
    refine op_load1 (v := cv) one113 (ev_base hNA rfl qA_73) (hGA.cell rfl) ?_
    exact obTk_end rfl rfl
   ·
    intro eA tA aA wA hNA hckA hGA hbsA hdpA
    have qA_9 := (hbsA 9 rfl).trans (sl_hit hN rfl)
    refine op_move (ev_base hNA rfl qA_9) ?_
    exact obTk_end rfl rfl
   ·
    intro eA tA aA wA hNA hckA hGA hbsA hdpA
    have qA_75 : Sl aA 75 (Value.int .i64 (((way (K.map Prod.snd) k) : Nat) : Int)) := (hdpA 14 _ 75 (by kernel_rfl) rfl rfl).2 rfl
    refine op_add (ev_base hNA rfl qA_75) rfl (add64 (by omega)) ?_
    exact obTk_end rfl rfl
   ·
    intro eA tA aA wA hNA hckA hGA hbsA hdpA
    have qA_11 := (hbsA 11 rfl).trans (sl_hit hN rfl)
    refine op_move (ev_base hNA rfl qA_11) ?_
    exact obTk_end rfl rfl
   ·
    intro eA tA aA wA hNA hckA hGA hbsA hdpA
    have qA_61 : Sl aA 61 (ptr p 0) := (hdpA 0 _ 61 (by kernel_rfl) rfl rfl).2 rfl
    refine op_nil (ev_base hNA rfl qA_61) ?_
    exact obTk_end rfl rfl
   ·
    intro eA tA aA wA hNA hckA hGA hbsA hdpA
    have qA_80 : Sl aA 80 (ptr p 0) := (hdpA 19 _ 80 (by kernel_rfl) rfl rfl).2 rfl
    refine op_field fld115_1 (ev_base hNA rfl qA_80) ?_
    exact obTk_end rfl rfl
   ·
    refine ktk_step (rs := [8, 17]) (by kernel_rfl) ?_
    refine more_mem ?_ ?_
    · -- first 8
     intro w58 E58 _ a58 hN58 hbs58 hdp58 o_ ho_; obtain rfl := Option.some.inj ho_
     have z_w58 := E58.size
     have hx := hx.keep0 E58
     have ok := ok.keep0 E58
     have oc := oc.keep0 E58
     have ks := all9 ks fun _ h => h.keep0 E58
     have hk := hk.keep0 E58
     have hrest := hrest.keepG (Gr.of0 E58 NoB) (fun _ _ h => h) (NoK.no _)
     have hB5 := hB5.keep0 E58
     have hT21 := hT21.keepG (Gr.of0 E58 NoB) (fun _ _ h => h) (NoK.no _)
     have hT2_21 := hT2_21.keepG (Gr.of0 E58 NoB) (fun _ _ h => h) (NoK.no _)
     have hu21 := hu21.keep0 E58
     have hb := hb.step0 E58
     have q58_68 : Sl a58 68 u21 := (hdp58 7 _ 68 (by kernel_rfl) rfl rfl).2 rfl
     refine op_bslice (e := 27) (pv := [(0, u21)]) (cs := [u21]) ⟨rfl, (ev_base hN58 rfl q58_68), trivial⟩ (by obtain ⟨_, _, _, rfl⟩ := hu21.sl; kernel_rfl) ?_
     intro w59 b60 lo_b60 hi_b60 hB62 E61
     have ne_b60_kv : kv.ownBlock ≠ some b60 := fun hh => by have := (ok.lt _ hh).2; omega
     have z_w59 := E61.size
     have hx := hx.keep0 E61
     have ok := ok.keep0 E61
     have oc := oc.keep0 E61
     have ks := all9 ks fun _ h => h.keep0 E61
     have hk := hk.keep0 E61
     have hrest := hrest.keepG (Gr.of0 E61 NoB) (fun _ _ h => h) (NoK.no _)
     have hB5 := hB5.keep0 E61
     have hT21 := hT21.keepG (Gr.of0 E61 NoB) (fun _ _ h => h) (NoK.no _)
     have hT2_21 := hT2_21.keepG (Gr.of0 E61 NoB) (fun _ _ h => h) (NoK.no _)
     have hu21 := hu21.keep0 E61
     have hb := hb.step0 E61
     refine ktk_end (G := fun t9 w' => 21 ∈ t9 → (Bx w' p 115 [(Value.slice none 0 0), kv, cv])) (todo := [8, 9, 17, 18, 21]) (i := 8) rfl (fun _ => hx) ?_
     refine ktk_step (rs := [9, 17]) (by kernel_rfl) ?_
     refine more_mem ?_ ?_
     · -- first 9
      intro w67 E67 _ a67 hN67 hbs67 hdp67 o_ ho_; obtain rfl := Option.some.inj ho_
      have z_w67 := E67.size
      have hx := hx.keep0 E67
      have ok := ok.keep0 E67
      have oc := oc.keep0 E67
      have ks := all9 ks fun _ h => h.keep0 E67
      have hk := hk.keep0 E67
      have hrest := hrest.keepG (Gr.of0 E67 NoB) (fun _ _ h => h) (NoK.no _)
      have hB5 := hB5.keep0 E67
      have hT21 := hT21.keepG (Gr.of0 E67 NoB) (fun _ _ h => h) (NoK.no _)
      have hT2_21 := hT2_21.keepG (Gr.of0 E67 NoB) (fun _ _ h => h) (NoK.no _)
      have hu21 := hu21.keep0 E67
      have hB62 := hB62.keep0 E67
      have hb := hb.step0 E67
      have q67_66 : Sl a67 66 kv := (hdp67 5 _ 66 (by kernel_rfl) rfl rfl).2 rfl
      have q67_67 : Sl a67 67 (Value.int .i64 (((way (K.map Prod.snd) k) : Nat) : Int)) := (hdp67 6 _ 67 (by kernel_rfl) rfl rfl).2 rfl
      have q67_69 : Sl a67 69 (Value.slice (some ⟨b60, 0, none⟩) 1 1) := (Option.some.inj ((hdp67 8 _ 69 (by kernel_rfl) rfl rfl).1 rfl)).symm
      refine op_fn (vs := [kv, (Value.int .i64 (((way (K.map Prod.snd) k) : Nat) : Int)), (Value.slice (some ⟨b60, 0, none⟩) 1 1)]) ok67 ⟨(ev_base hN67 rfl q67_66), ⟨(ev_base hN67 rfl q67_67), ⟨(ev_base hN67 rfl q67_69), trivial⟩⟩⟩ (InsK ok hB62 (one_kd ks (fun _ h => h)) (by simp only [List.all_cons, List.all_nil, Bool.true_and, Bool.and_true, hu21.one]; try rfl) (by first | omega | (simp only [List.length_insertIdx, List.length_set, List.length_drop, List.length_take]; omega) | (simp; omega)) (by first | omega | (simp only [List.length_insertIdx, List.length_set, List.length_drop, List.length_take]; omega) | (simp; omega)) ne_b60_kv) ?_
      rintro v68 w69 ⟨E70, hO68, hm68⟩
      have dj71 : Dj G0 (Bl v68) := Dj.step hm68 (fun k hk => (hrest.lt k hk).2) djkG.symm
      have dj72 : Dj W1_21 (Bl v68) := Dj.step hm68 (fun k hk => (hT21.lt k hk).2) dj31.symm
      have dj73 : Dj W2_21 (Bl v68) := Dj.step hm68 (fun k hk => (hT2_21.lt k hk).2) dj37.symm
      have hin74 := inF_step (n := w.heap.size) hm68 (by omega) (fun k _ h => hNd.wk k h)
      have z_w69 := E70.size
      have hx := hx.keepO ok E70 (by decide)
      have oc := oc.keepT ok E70 (by decide)
      have ks := all9 ks fun _ h => h.keepT ok E70 (by decide)
      have hk := hk.keepT ok E70 (by decide)
      have hrest := hrest.keepG (Gr.of E70) djkG.symm (NoK.ofOwn ok (by decide))
      have hB5 := hB5.keepO ok E70 (by decide)
      have hT21 := hT21.keepG (Gr.of E70) dj31.symm (NoK.ofOwn ok (by decide))
      have hT2_21 := hT2_21.keepG (Gr.of E70) dj37.symm (NoK.ofOwn ok (by decide))
      have hu21 := hu21.keepT ok E70 (by decide)
      have hb := hb.stepL E70 (fun k _ h => hNd.wk k h)
      have hO68 : Own w69 0 27 1 v68 (K.insertIdx (way (K.map Prod.snd) k) (u21, y21)).length ((K.insertIdx (way (K.map Prod.snd) k) (u21, y21)).flatMap cK) := hO68.cast (by rw [List.length_insertIdx, if_pos (by first | omega | (simp only [List.length_insertIdx, List.length_set, List.length_drop, List.length_take]; omega) | (simp; omega))]) (flat_ins cK_len (u21, y21) (by first | omega | (simp only [List.length_insertIdx, List.length_set, List.length_drop, List.length_take]; omega) | (simp; omega)))
      refine ktk_end (G := fun t9 w' => 21 ∈ t9 → (Bx w' p 115 [(Value.slice none 0 0), kv, cv])) (todo := [9, 17, 18, 21]) (i := 9) rfl (fun _ => hx) ?_
      refine ktk_step (rs := [17]) (by kernel_rfl) ?_
      refine one_mem ?_
      intro w76 E76 _ a76 hN76 hbs76 hdp76 o_ ho_; obtain rfl := Option.some.inj ho_
      have z_w76 := E76.size
      have hx := hx.keep0 E76
      have oc := oc.keep0 E76
      have ks := all9 ks fun _ h => h.keep0 E76
      have hk := hk.keep0 E76
      have hrest := hrest.keepG (Gr.of0 E76 NoB) (fun _ _ h => h) (NoK.no _)
      have hB5 := hB5.keep0 E76
      have hT21 := hT21.keepG (Gr.of0 E76 NoB) (fun _ _ h => h) (NoK.no _)
      have hT2_21 := hT2_21.keepG (Gr.of0 E76 NoB) (fun _ _ h => h) (NoK.no _)
      have hu21 := hu21.keep0 E76
      have hO68 := hO68.keep0 E76
      have hb := hb.step0 E76
      have q76_77 : Sl a76 77 (ptr q21 0) := (hdp76 16 _ 77 (by kernel_rfl) rfl rfl).2 rfl
      refine op_bslice (e := 69) (pv := [(0, (ptr q21 0))]) (cs := [(ptr q21 0)]) ⟨rfl, (ev_base hN76 rfl q76_77), trivial⟩ (by kernel_rfl) ?_
      intro w77 b78 lo_b78 hi_b78 hB80 E79
      have ne_b78_cv : cv.ownBlock ≠ some b78 := fun hh => by have := (oc.lt _ hh).2; omega
      have z_w77 := E79.size
      have hx := hx.keep0 E79
      have oc := oc.keep0 E79
      have ks := all9 ks fun _ h => h.keep0 E79
      have hk := hk.keep0 E79
      have hrest := hrest.keepG (Gr.of0 E79 NoB) (fun _ _ h => h) (NoK.no _)
      have hB5 := hB5.keep0 E79
      have hT21 := hT21.keepG (Gr.of0 E79 NoB) (fun _ _ h => h) (NoK.no _)
      have hT2_21 := hT2_21.keepG (Gr.of0 E79 NoB) (fun _ _ h => h) (NoK.no _)
      have hu21 := hu21.keep0 E79
      have hO68 := hO68.keep0 E79
      have hb := hb.step0 E79
      refine ktk_end (G := fun t9 w' => 21 ∈ t9 → (Bx w' p 115 [(Value.slice none 0 0), kv, cv])) (todo := [17, 18, 21]) (i := 17) rfl (fun _ => hx) ?_
      refine ktk_step (rs := [18]) (by kernel_rfl) ?_
      refine one_mem ?_
      intro w85 E85 _ a85 hN85 hbs85 hdp85 o_ ho_; obtain rfl := Option.some.inj ho_
      have z_w85 := E85.size
      have hx := hx.keep0 E85
      have oc := oc.keep0 E85
      have ks := all9 ks fun _ h => h.keep0 E85
      have hk := hk.keep0 E85
      have hrest := hrest.keepG (Gr.of0 E85 NoB) (fun _ _ h => h) (NoK.no _)
      have hB5 := hB5.keep0 E85
      have hT21 := hT21.keepG (Gr.of0 E85 NoB) (fun _ _ h => h) (NoK.no _)
      have hT2_21 := hT2_21.keepG (Gr.of0 E85 NoB) (fun _ _ h => h) (NoK.no _)
      have hu21 := hu21.keep0 E85
      have hO68 := hO68.keep0 E85
      have hB80 := hB80.keep0 E85
      have hb := hb.step0 E85
      have q85_74 : Sl a85 74 cv := (hdp85 13 _ 74 (by kernel_rfl) rfl rfl).2 rfl
      have q85_76 : Sl a85 76 (Value.int .i64 ((((way (K.map Prod.snd) k) : Nat) : Int) + 1)) := (hdp85 15 _ 76 (by kernel_rfl) rfl rfl).2 rfl
      have q85_78 : Sl a85 78 (Value.slice (some ⟨b78, 0, none⟩) 1 1) := (Option.some.inj ((hdp85 17 _ 78 (by kernel_rfl) rfl rfl).1 rfl)).symm
      refine op_fn (vs := [cv, (Value.int .i64 ((((way (K.map Prod.snd) k) : Nat) : Int) + 1)), (Value.slice (some ⟨b78, 0, none⟩) 1 1)]) ok85 ⟨(ev_base hN85 rfl q85_74), ⟨(ev_base hN85 rfl q85_76), ⟨(ev_base hN85 rfl q85_78), trivial⟩⟩⟩ (InsNI oc hB80 (one_pn _) rfl (by first | omega | (simp only [List.length_insertIdx, List.length_set, List.length_drop, List.length_take]; omega) | (simp; omega)) (by first | omega | (simp only [List.length_insertIdx, List.length_set, List.length_drop, List.length_take]; omega) | (simp; omega)) ne_b78_cv) ?_
      rintro v86 w87 ⟨E88, hO86, hm86⟩
      have dj89 : Dj G0 (Bl v86) := Dj.step hm86 (fun k hk => (hrest.lt k hk).2) djcG.symm
      have dj90 : Dj W1_21 (Bl v86) := Dj.step hm86 (fun k hk => (hT21.lt k hk).2) dj32.symm
      have dj91 : Dj W2_21 (Bl v86) := Dj.step hm86 (fun k hk => (hT2_21.lt k hk).2) dj38.symm
      have hin92 := inF_step (n := w.heap.size) hm86 (by omega) (fun k _ h => hNd.wc k h)
      have z_w87 := E88.size
      have hx := hx.keepO oc E88 (by decide)
      have ks := all9 ks fun _ h => h.keepT oc E88 (by decide)
      have hk := hk.keepT oc E88 (by decide)
      have hrest := hrest.keepG (Gr.of E88) djcG.symm (NoK.ofOwn oc (by decide))
      have hB5 := hB5.keepO oc E88 (by decide)
      have hT21 := hT21.keepG (Gr.of E88) dj32.symm (NoK.ofOwn oc (by decide))
      have hT2_21 := hT2_21.keepG (Gr.of E88) dj38.symm (NoK.ofOwn oc (by decide))
      have hu21 := hu21.keepT oc E88 (by decide)
      have hO68 := hO68.keepT oc E88 (by decide)
      have hb := hb.stepL E88 (fun k _ h => hNd.wc k h)
      have hO86 : Own w87 0 69 1 v86 (P.insertIdx (((way (K.map Prod.snd) k)) + 1) q21).length ((P.insertIdx (((way (K.map Prod.snd) k)) + 1) q21).flatMap cN) := hO86.cast (by rw [List.length_insertIdx, if_pos (by first | omega | (simp only [List.length_insertIdx, List.length_set, List.length_drop, List.length_take]; omega) | (simp; omega))]) (flat_ins cN_len q21 (by first | omega | (simp only [List.length_insertIdx, List.length_set, List.length_drop, List.length_take]; omega) | (simp; omega)))
      refine ktk_end (G := fun t9 w' => 21 ∈ t9 → (Bx w' p 115 [(Value.slice none 0 0), kv, cv])) (todo := [18, 21]) (i := 18) rfl (fun _ => hx) ?_
      refine ktk_step (rs := [21]) (by kernel_rfl) ?_
      refine one_mem ?_
      intro w94 E94 _ a94 hN94 hbs94 hdp94 o_ ho_; obtain rfl := Option.some.inj ho_
      have z_w94 := E94.size
      have hx := hx.keep0 E94
      have ks := all9 ks fun _ h => h.keep0 E94
      have hk := hk.keep0 E94
      have hrest := hrest.keepG (Gr.of0 E94 NoB) (fun _ _ h => h) (NoK.no _)
      have hB5 := hB5.keep0 E94
      have hT21 := hT21.keepG (Gr.of0 E94 NoB) (fun _ _ h => h) (NoK.no _)
      have hT2_21 := hT2_21.keepG (Gr.of0 E94 NoB) (fun _ _ h => h) (NoK.no _)
      have hu21 := hu21.keep0 E94
      have hO68 := hO68.keep0 E94
      have hO86 := hO86.keep0 E94
      have hb := hb.step0 E94
      have q94_81 : Sl a94 81 (ptr p 1) := (hdp94 20 _ 81 (by kernel_rfl) rfl rfl).2 rfl
      have q94_70 : Sl a94 70 v68 := (Option.some.inj ((hdp94 9 _ 70 (by kernel_rfl) rfl rfl).1 rfl)).symm
      have hx_old := hx
      refine op_store (vs := [v68]) (cs' := [(Value.slice none 0 0), v68, cv]) size90 (ev_base hN94 rfl q94_81) (ev_base hN94 rfl q94_70) hO68.cl rfl (by simp only [List.all_cons, List.all_nil, Bool.true_and, Bool.and_true, hO68.one]; try rfl) hx (Nat.le_of_ble_eq_true rfl) rfl ?_
      intro w97 hx E98
      have z_w97 := E98.size
      have ks := all9 ks fun _ h => h.keepX hx_old E98 (by decide)
      have hk := hk.keepX hx_old E98 (by decide)
      have hrest := hrest.keepG (Gr.of E98) (Dj.one djpG) (NoK.ofBx hx_old (by decide))
      have hB5 := hB5.keep E98 (fun hh => hB5.ne hx_old (by decide) (Option.some.inj hh))
      have hT21 := hT21.keepG (Gr.of E98) (Dj.one dj30) (NoK.ofBx hx_old (by decide))
      have hT2_21 := hT2_21.keepG (Gr.of E98) (Dj.one dj36) (NoK.ofBx hx_old (by decide))
      have hu21 := hu21.keepX hx_old E98 (by decide)
      have hO68 := hO68.keepX hx_old E98 (by decide)
      have hO86 := hO86.keepX hx_old E98 (by decide)
      have hb := hb.stepB E98 hNd.wp
      refine ktk_end0 (G := fun t9 w' => 21 ∈ t9 → (Bx w' p 115 [(Value.slice none 0 0), kv, cv])) (todo := [21]) (i := 21) rfl (fun h => absurd h (by decide)) ?_
      intro w99 E99 a99 hN99 hd99 hbs99 hph99
      have hd99 := hd99.trans ((by simp only [putsL_defers] : _ = _).trans hd)
      have z_w99 := E99.size
      have ks := all9 ks fun _ h => h.keep0 E99
      have hk := hk.keep0 E99
      have hrest := hrest.keepG (Gr.of0 E99 NoB) (fun _ _ h => h) (NoK.no _)
      have hB5 := hB5.keep0 E99
      have hT21 := hT21.keepG (Gr.of0 E99 NoB) (fun _ _ h => h) (NoK.no _)
      have hT2_21 := hT2_21.keepG (Gr.of0 E99 NoB) (fun _ _ h => h) (NoK.no _)
      have hu21 := hu21.keep0 E99
      have hO68 := hO68.keep0 E99
      have hO86 := hO86.keep0 E99
      have hx := hx.keep0 E99
      have hb := hb.step0 E99
      have s99_0 := (hbs99 0 rfl).trans (sl_base hN rfl s0)
      have s99_4 := (hbs99 4 rfl).trans (sl_hit hN rfl)
      have s99_5 := (hbs99 5 rfl).trans (sl_hit hN rfl)
      have s99_6 := (hbs99 6 rfl).trans (sl_hit hN rfl)
      have s99_62 : Sl a99 62 (ptr p 0) := (hph99 1 _ 62 rfl rfl).2 rfl
      have s99_79 : Sl a99 79 v86 := (Option.some.inj ((hph99 18 _ 79 rfl rfl).1 rfl)).symm
      refine split_end ?_
      refine from_seq (tl := [_, _, _]) (by decide) (by kernel_rfl) rfl ?_
      refine op_nil (ev_base hN99 rfl s99_62) (op_field fld115_2 (ev_hit hN99 rfl) ?_)
      have hx_old := hx
      refine op_store (vs := [v86]) (cs' := [(Value.slice none 0 0), v68, v86]) size113 (ev_hit hN99 rfl) (ev_base hN99 rfl s99_79) hO86.cl rfl (by simp only [List.all_cons, List.all_nil, Bool.true_and, Bool.and_true, hO86.one]; try rfl) hx (Nat.le_of_ble_eq_true rfl) rfl ?_
      intro w102 hx E103
      have z_w102 := E103.size
      have ks := all9 ks fun _ h => h.keepX hx_old E103 (by decide)
      have hk := hk.keepX hx_old E103 (by decide)
      have hrest := hrest.keepG (Gr.of E103) (Dj.one djpG) (NoK.ofBx hx_old (by decide))
      have hB5 := hB5.keep E103 (fun hh => hB5.ne hx_old (by decide) (Option.some.inj hh))
      have hT21 := hT21.keepG (Gr.of E103) (Dj.one dj30) (NoK.ofBx hx_old (by decide))
      have hT2_21 := hT2_21.keepG (Gr.of E103) (Dj.one dj36) (NoK.ofBx hx_old (by decide))
      have hu21 := hu21.keepX hx_old E103 (by decide)
      have hO68 := hO68.keepX hx_old E103 (by decide)
      have hO86 := hO86.keepX hx_old E103 (by decide)
      have hb := hb.stepB E103 hNd.wp
      refine reg_nil (hK8 _ _ ?_)
      exact hJ53 _ _ _ hN99 hd99 ⟨v68, v86, (sl_base hN99 rfl s99_0), (sl_base hN99 rfl s99_4), (sl_base hN99 rfl s99_5), (sl_base hN99 rfl s99_6), dj71.symm, dj72.symm, dj73.symm, hin74, dj89.symm, dj90.symm, dj91.symm, hin92, hb, (by omega), ks, hk, hrest, hB5, hT21, hT2_21, hu21, (hO68.cast (n' := (K.insertIdx (way (K.map Prod.snd) k) (u21, y21)).length) (cs' := (K.insertIdx (way (K.map Prod.snd) k) (u21, y21)).flatMap cK) (by first | rfl | (simp; done) | (simp only [List.length_append, List.length_cons, List.length_nil]; omega)) (by first | rfl | simp [cK, cN, cI])), (hO86.cast (n' := (P.insertIdx ((way (K.map Prod.snd) k) + 1) q21).length) (cs' := (P.insertIdx ((way (K.map Prod.snd) k) + 1) q21).flatMap cN) (by first | rfl | (simp; done) | (simp only [List.length_append, List.length_cons, List.length_nil]; omega)) (by first | rfl | simp [cK, cN, cI])), hx⟩
     refine one_mem ?_
     intro w104 E104 _ a104 hN104 hbs104 hdp104 o_ ho_; obtain rfl := Option.some.inj ho_
     have z_w104 := E104.size
     have hx := hx.keep0 E104
     have ok := ok.keep0 E104
     have oc := oc.keep0 E104
     have ks := all9 ks fun _ h => h.keep0 E104
     have hk := hk.keep0 E104
     have hrest := hrest.keepG (Gr.of0 E104 NoB) (fun _ _ h => h) (NoK.no _)
     have hB5 := hB5.keep0 E104
     have hT21 := hT21.keepG (Gr.of0 E104 NoB) (fun _ _ h => h) (NoK.no _)
     have hT2_21 := hT2_21.keepG (Gr.of0 E104 NoB) (fun _ _ h => h) (NoK.no _)
     have hu21 := hu21.keep0 E104
     have hB62 := hB62.keep0 E104
     have hb := hb.step0 E104
     have q104_77 : Sl a104 77 (ptr q21 0) := (hdp104 16 _ 77 (by kernel_rfl) rfl rfl).2 rfl
     refine op_bslice (e := 69) (pv := [(0, (ptr q21 0))]) (cs := [(ptr q21 0)]) ⟨rfl, (ev_base hN104 rfl q104_77), trivial⟩ (by kernel_rfl) ?_
     intro w105 b106 lo_b106 hi_b106 hB108 E107
     have ne_b106_cv : cv.ownBlock ≠ some b106 := fun hh => by have := (oc.lt _ hh).2; omega
     have z_w105 := E107.size
     have hx := hx.keep0 E107
     have ok := ok.keep0 E107
     have oc := oc.keep0 E107
     have ks := all9 ks fun _ h => h.keep0 E107
     have hk := hk.keep0 E107
     have hrest := hrest.keepG (Gr.of0 E107 NoB) (fun _ _ h => h) (NoK.no _)
     have hB5 := hB5.keep0 E107
     have hT21 := hT21.keepG (Gr.of0 E107 NoB) (fun _ _ h => h) (NoK.no _)
     have hT2_21 := hT2_21.keepG (Gr.of0 E107 NoB) (fun _ _ h => h) (NoK.no _)
     have hu21 := hu21.keep0 E107
     have hB62 := hB62.keep0 E107
     have hb := hb.step0 E107
     refine ktk_end (G := fun t9 w' => 21 ∈ t9 → (Bx w' p 115 [(Value.slice none 0 0), kv, cv])) (todo := [9, 17, 18, 21]) (i := 17) rfl (fun _ => hx) ?_
     refine ktk_step (rs := [9]) (by kernel_rfl) ?_
     refine one_mem ?_
     intro w113 E113 _ a113 hN113 hbs113 hdp113 o_ ho_; obtain rfl := Option.some.inj ho_
     have z_w113 := E113.size
     have hx := hx.keep0 E113
     have ok := ok.keep0 E113
     have oc := oc.keep0 E113
     have ks := all9 ks fun _ h => h.keep0 E113
     have hk := hk.keep0 E113
     have hrest := hrest.keepG (Gr.of0 E113 NoB) (fun _ _ h => h) (NoK.no _)
     have hB5 := hB5.keep0 E113
     have hT21 := hT21.keepG (Gr.of0 E113 NoB) (fun _ _ h => h) (NoK.no _)
     have hT2_21 := hT2_21.keepG (Gr.of0 E113 NoB) (fun _ _ h => h) (NoK.no _)
     have hu21 := hu21.keep0 E113
     have hB62 := hB62.keep0 E113
     have hB108 := hB108.keep0 E113
     have hb := hb.step0 E113
     have q113_66 : Sl a113 66 kv := (hdp113 5 _ 66 (by kernel_rfl) rfl rfl).2 rfl
     have q113_67 : Sl a113 67 (Value.int .i64 (((way (K.map Prod.snd) k) : Nat) : Int)) := (hdp113 6 _ 67 (by kernel_rfl) rfl rfl).2 rfl
     have q113_69 : Sl a113 69 (Value.slice (some ⟨b60, 0, none⟩) 1 1) := (Option.some.inj ((hdp113 8 _ 69 (by kernel_rfl) rfl rfl).1 rfl)).symm
     refine op_fn (vs := [kv, (Value.int .i64 (((way (K.map Prod.snd) k) : Nat) : Int)), (Value.slice (some ⟨b60, 0, none⟩) 1 1)]) ok67 ⟨(ev_base hN113 rfl q113_66), ⟨(ev_base hN113 rfl q113_67), ⟨(ev_base hN113 rfl q113_69), trivial⟩⟩⟩ (InsK ok hB62 (one_kd ks (fun _ h => h)) (by simp only [List.all_cons, List.all_nil, Bool.true_and, Bool.and_true, hu21.one]; try rfl) (by first | omega | (simp only [List.length_insertIdx, List.length_set, List.length_drop, List.length_take]; omega) | (simp; omega)) (by first | omega | (simp only [List.length_insertIdx, List.length_set, List.length_drop, List.length_take]; omega) | (simp; omega)) ne_b60_kv) ?_
     rintro v114 w115 ⟨E116, hO114, hm114⟩
     have dj117 : Dj G0 (Bl v114) := Dj.step hm114 (fun k hk => (hrest.lt k hk).2) djkG.symm
     have dj118 : Dj W1_21 (Bl v114) := Dj.step hm114 (fun k hk => (hT21.lt k hk).2) dj31.symm
     have dj119 : Dj W2_21 (Bl v114) := Dj.step hm114 (fun k hk => (hT2_21.lt k hk).2) dj37.symm
     have hin120 := inF_step (n := w.heap.size) hm114 (by omega) (fun k _ h => hNd.wk k h)
     have z_w115 := E116.size
     have hx := hx.keepO ok E116 (by decide)
     have oc := oc.keepT ok E116 (by decide)
     have ks := all9 ks fun _ h => h.keepT ok E116 (by decide)
     have hk := hk.keepT ok E116 (by decide)
     have hrest := hrest.keepG (Gr.of E116) djkG.symm (NoK.ofOwn ok (by decide))
     have hB5 := hB5.keepO ok E116 (by decide)
     have hT21 := hT21.keepG (Gr.of E116) dj31.symm (NoK.ofOwn ok (by decide))
     have hT2_21 := hT2_21.keepG (Gr.of E116) dj37.symm (NoK.ofOwn ok (by decide))
     have hu21 := hu21.keepT ok E116 (by decide)
     have hB108 := hB108.keepO ok E116 (by decide)
     have hb := hb.stepL E116 (fun k _ h => hNd.wk k h)
     have hO114 : Own w115 0 27 1 v114 (K.insertIdx (way (K.map Prod.snd) k) (u21, y21)).length ((K.insertIdx (way (K.map Prod.snd) k) (u21, y21)).flatMap cK) := hO114.cast (by rw [List.length_insertIdx, if_pos (by first | omega | (simp only [List.length_insertIdx, List.length_set, List.length_drop, List.length_take]; omega) | (simp; omega))]) (flat_ins cK_len (u21, y21) (by first | omega | (simp only [List.length_insertIdx, List.length_set, List.length_drop, List.length_take]; omega) | (simp; omega)))
     refine ktk_end (G := fun t9 w' => 21 ∈ t9 → (Bx w' p 115 [(Value.slice none 0 0), kv, cv])) (todo := [9, 18, 21]) (i := 9) rfl (fun _ => hx) ?_
     refine ktk_step (rs := [18]) (by kernel_rfl) ?_
     refine one_mem ?_
     intro w122 E122 _ a122 hN122 hbs122 hdp122 o_ ho_; obtain rfl := Option.some.inj ho_
     have z_w122 := E122.size
     have hx := hx.keep0 E122
     have oc := oc.keep0 E122
     have ks := all9 ks fun _ h => h.keep0 E122
     have hk := hk.keep0 E122
     have hrest := hrest.keepG (Gr.of0 E122 NoB) (fun _ _ h => h) (NoK.no _)
     have hB5 := hB5.keep0 E122
     have hT21 := hT21.keepG (Gr.of0 E122 NoB) (fun _ _ h => h) (NoK.no _)
     have hT2_21 := hT2_21.keepG (Gr.of0 E122 NoB) (fun _ _ h => h) (NoK.no _)
     have hu21 := hu21.keep0 E122
     have hB108 := hB108.keep0 E122
     have hO114 := hO114.keep0 E122
     have hb := hb.step0 E122
     have q122_74 : Sl a122 74 cv := (hdp122 13 _ 74 (by kernel_rfl) rfl rfl).2 rfl
     have q122_76 : Sl a122 76 (Value.int .i64 ((((way (K.map Prod.snd) k) : Nat) : Int) + 1)) := (hdp122 15 _ 76 (by kernel_rfl) rfl rfl).2 rfl
     have q122_78 : Sl a122 78 (Value.slice (some ⟨b106, 0, none⟩) 1 1) := (Option.some.inj ((hdp122 17 _ 78 (by kernel_rfl) rfl rfl).1 rfl)).symm
     refine op_fn (vs := [cv, (Value.int .i64 ((((way (K.map Prod.snd) k) : Nat) : Int) + 1)), (Value.slice (some ⟨b106, 0, none⟩) 1 1)]) ok85 ⟨(ev_base hN122 rfl q122_74), ⟨(ev_base hN122 rfl q122_76), ⟨(ev_base hN122 rfl q122_78), trivial⟩⟩⟩ (InsNI oc hB108 (one_pn _) rfl (by first | omega | (simp only [List.length_insertIdx, List.length_set, List.length_drop, List.length_take]; omega) | (simp; omega)) (by first | omega | (simp only [List.length_insertIdx, List.length_set, List.length_drop, List.length_take]; omega) | (simp; omega)) ne_b106_cv) ?_
     rintro v123 w124 ⟨E125, hO123, hm123⟩
     have dj126 : Dj G0 (Bl v123) := Dj.step hm123 (fun k hk => (hrest.lt k hk).2) djcG.symm
     have dj127 : Dj W1_21 (Bl v123) := Dj.step hm123 (fun k hk => (hT21.lt k hk).2) dj32.symm
     have dj128 : Dj W2_21 (Bl v123) := Dj.step hm123 (fun k hk => (hT2_21.lt k hk).2) dj38.symm
     have hin129 := inF_step (n := w.heap.size) hm123 (by omega) (fun k _ h => hNd.wc k h)
     have z_w124 := E125.size
     have hx := hx.keepO oc E125 (by decide)
     have ks := all9 ks fun _ h => h.keepT oc E125 (by decide)
     have hk := hk.keepT oc E125 (by decide)
     have hrest := hrest.keepG (Gr.of E125) djcG.symm (NoK.ofOwn oc (by decide))
     have hB5 := hB5.keepO oc E125 (by decide)
     have hT21 := hT21.keepG (Gr.of E125) dj32.symm (NoK.ofOwn oc (by decide))
     have hT2_21 := hT2_21.keepG (Gr.of E125) dj38.symm (NoK.ofOwn oc (by decide))
     have hu21 := hu21.keepT oc E125 (by decide)
     have hO114 := hO114.keepT oc E125 (by decide)
     have hb := hb.stepL E125 (fun k _ h => hNd.wc k h)
     have hO123 : Own w124 0 69 1 v123 (P.insertIdx (((way (K.map Prod.snd) k)) + 1) q21).length ((P.insertIdx (((way (K.map Prod.snd) k)) + 1) q21).flatMap cN) := hO123.cast (by rw [List.length_insertIdx, if_pos (by first | omega | (simp only [List.length_insertIdx, List.length_set, List.length_drop, List.length_take]; omega) | (simp; omega))]) (flat_ins cN_len q21 (by first | omega | (simp only [List.length_insertIdx, List.length_set, List.length_drop, List.length_take]; omega) | (simp; omega)))
     refine ktk_end (G := fun t9 w' => 21 ∈ t9 → (Bx w' p 115 [(Value.slice none 0 0), kv, cv])) (todo := [18, 21]) (i := 18) rfl (fun _ => hx) ?_
     refine ktk_step (rs := [21]) (by kernel_rfl) ?_
     refine one_mem ?_
     intro w131 E131 _ a131 hN131 hbs131 hdp131 o_ ho_; obtain rfl := Option.some.inj ho_
     have z_w131 := E131.size
     have hx := hx.keep0 E131
     have ks := all9 ks fun _ h => h.keep0 E131
     have hk := hk.keep0 E131
     have hrest := hrest.keepG (Gr.of0 E131 NoB) (fun _ _ h => h) (NoK.no _)
     have hB5 := hB5.keep0 E131
     have hT21 := hT21.keepG (Gr.of0 E131 NoB) (fun _ _ h => h) (NoK.no _)
     have hT2_21 := hT2_21.keepG (Gr.of0 E131 NoB) (fun _ _ h => h) (NoK.no _)
     have hu21 := hu21.keep0 E131
     have hO114 := hO114.keep0 E131
     have hO123 := hO123.keep0 E131
     have hb := hb.step0 E131
     have q131_81 : Sl a131 81 (ptr p 1) := (hdp131 20 _ 81 (by kernel_rfl) rfl rfl).2 rfl
     have q131_70 : Sl a131 70 v114 := (Option.some.inj ((hdp131 9 _ 70 (by kernel_rfl) rfl rfl).1 rfl)).symm
     have hx_old := hx
     refine op_store (vs := [v114]) (cs' := [(Value.slice none 0 0), v114, cv]) size90 (ev_base hN131 rfl q131_81) (ev_base hN131 rfl q131_70) hO114.cl rfl (by simp only [List.all_cons, List.all_nil, Bool.true_and, Bool.and_true, hO114.one]; try rfl) hx (Nat.le_of_ble_eq_true rfl) rfl ?_
     intro w134 hx E135
     have z_w134 := E135.size
     have ks := all9 ks fun _ h => h.keepX hx_old E135 (by decide)
     have hk := hk.keepX hx_old E135 (by decide)
     have hrest := hrest.keepG (Gr.of E135) (Dj.one djpG) (NoK.ofBx hx_old (by decide))
     have hB5 := hB5.keep E135 (fun hh => hB5.ne hx_old (by decide) (Option.some.inj hh))
     have hT21 := hT21.keepG (Gr.of E135) (Dj.one dj30) (NoK.ofBx hx_old (by decide))
     have hT2_21 := hT2_21.keepG (Gr.of E135) (Dj.one dj36) (NoK.ofBx hx_old (by decide))
     have hu21 := hu21.keepX hx_old E135 (by decide)
     have hO114 := hO114.keepX hx_old E135 (by decide)
     have hO123 := hO123.keepX hx_old E135 (by decide)
     have hb := hb.stepB E135 hNd.wp
     refine ktk_end0 (G := fun t9 w' => 21 ∈ t9 → (Bx w' p 115 [(Value.slice none 0 0), kv, cv])) (todo := [21]) (i := 21) rfl (fun h => absurd h (by decide)) ?_
     intro w136 E136 a136 hN136 hd136 hbs136 hph136
     have hd136 := hd136.trans ((by simp only [putsL_defers] : _ = _).trans hd)
     have z_w136 := E136.size
     have ks := all9 ks fun _ h => h.keep0 E136
     have hk := hk.keep0 E136
     have hrest := hrest.keepG (Gr.of0 E136 NoB) (fun _ _ h => h) (NoK.no _)
     have hB5 := hB5.keep0 E136
     have hT21 := hT21.keepG (Gr.of0 E136 NoB) (fun _ _ h => h) (NoK.no _)
     have hT2_21 := hT2_21.keepG (Gr.of0 E136 NoB) (fun _ _ h => h) (NoK.no _)
     have hu21 := hu21.keep0 E136
     have hO114 := hO114.keep0 E136
     have hO123 := hO123.keep0 E136
     have hx := hx.keep0 E136
     have hb := hb.step0 E136
     have s136_0 := (hbs136 0 rfl).trans (sl_base hN rfl s0)
     have s136_4 := (hbs136 4 rfl).trans (sl_hit hN rfl)
     have s136_5 := (hbs136 5 rfl).trans (sl_hit hN rfl)
     have s136_6 := (hbs136 6 rfl).trans (sl_hit hN rfl)
     have s136_62 : Sl a136 62 (ptr p 0) := (hph136 1 _ 62 rfl rfl).2 rfl
     have s136_79 : Sl a136 79 v123 := (Option.some.inj ((hph136 18 _ 79 rfl rfl).1 rfl)).symm
     refine split_end ?_
     refine from_seq (tl := [_, _, _]) (by decide) (by kernel_rfl) rfl ?_
     refine op_nil (ev_base hN136 rfl s136_62) (op_field fld115_2 (ev_hit hN136 rfl) ?_)
     have hx_old := hx
     refine op_store (vs := [v123]) (cs' := [(Value.slice none 0 0), v114, v123]) size113 (ev_hit hN136 rfl) (ev_base hN136 rfl s136_79) hO123.cl rfl (by simp only [List.all_cons, List.all_nil, Bool.true_and, Bool.and_true, hO123.one]; try rfl) hx (Nat.le_of_ble_eq_true rfl) rfl ?_
     intro w139 hx E140
     have z_w139 := E140.size
     have ks := all9 ks fun _ h => h.keepX hx_old E140 (by decide)
     have hk := hk.keepX hx_old E140 (by decide)
     have hrest := hrest.keepG (Gr.of E140) (Dj.one djpG) (NoK.ofBx hx_old (by decide))
     have hB5 := hB5.keep E140 (fun hh => hB5.ne hx_old (by decide) (Option.some.inj hh))
     have hT21 := hT21.keepG (Gr.of E140) (Dj.one dj30) (NoK.ofBx hx_old (by decide))
     have hT2_21 := hT2_21.keepG (Gr.of E140) (Dj.one dj36) (NoK.ofBx hx_old (by decide))
     have hu21 := hu21.keepX hx_old E140 (by decide)
     have hO114 := hO114.keepX hx_old E140 (by decide)
     have hO123 := hO123.keepX hx_old E140 (by decide)
     have hb := hb.stepB E140 hNd.wp
     refine reg_nil (hK8 _ _ ?_)
     exact hJ53 _ _ _ hN136 hd136 ⟨v114, v123, (sl_base hN136 rfl s136_0), (sl_base hN136 rfl s136_4), (sl_base hN136 rfl s136_5), (sl_base hN136 rfl s136_6), dj117.symm, dj118.symm, dj119.symm, hin120, dj126.symm, dj127.symm, dj128.symm, hin129, hb, (by omega), ks, hk, hrest, hB5, hT21, hT2_21, hu21, (hO114.cast (n' := (K.insertIdx (way (K.map Prod.snd) k) (u21, y21)).length) (cs' := (K.insertIdx (way (K.map Prod.snd) k) (u21, y21)).flatMap cK) (by first | rfl | (simp; done) | (simp only [List.length_append, List.length_cons, List.length_nil]; omega)) (by first | rfl | simp [cK, cN, cI])), (hO123.cast (n' := (P.insertIdx ((way (K.map Prod.snd) k) + 1) q21).length) (cs' := (P.insertIdx ((way (K.map Prod.snd) k) + 1) q21).flatMap cN) (by first | rfl | (simp; done) | (simp only [List.length_append, List.length_cons, List.length_nil]; omega)) (by first | rfl | simp [cK, cN, cI])), hx⟩
    refine one_mem ?_
    intro w141 E141 _ a141 hN141 hbs141 hdp141 o_ ho_; obtain rfl := Option.some.inj ho_
    have z_w141 := E141.size
    have hx := hx.keep0 E141
    have ok := ok.keep0 E141
    have oc := oc.keep0 E141
    have ks := all9 ks fun _ h => h.keep0 E141
    have hk := hk.keep0 E141
    have hrest := hrest.keepG (Gr.of0 E141 NoB) (fun _ _ h => h) (NoK.no _)
    have hB5 := hB5.keep0 E141
    have hT21 := hT21.keepG (Gr.of0 E141 NoB) (fun _ _ h => h) (NoK.no _)
    have hT2_21 := hT2_21.keepG (Gr.of0 E141 NoB) (fun _ _ h => h) (NoK.no _)
    have hu21 := hu21.keep0 E141
    have hb := hb.step0 E141
    have q141_77 : Sl a141 77 (ptr q21 0) := (hdp141 16 _ 77 (by kernel_rfl) rfl rfl).2 rfl
    refine op_bslice (e := 69) (pv := [(0, (ptr q21 0))]) (cs := [(ptr q21 0)]) ⟨rfl, (ev_base hN141 rfl q141_77), trivial⟩ (by kernel_rfl) ?_
    intro w142 b143 lo_b143 hi_b143 hB145 E144
    have ne_b143_cv : cv.ownBlock ≠ some b143 := fun hh => by have := (oc.lt _ hh).2; omega
    have z_w142 := E144.size
    have hx := hx.keep0 E144
    have ok := ok.keep0 E144
    have oc := oc.keep0 E144
    have ks := all9 ks fun _ h => h.keep0 E144
    have hk := hk.keep0 E144
    have hrest := hrest.keepG (Gr.of0 E144 NoB) (fun _ _ h => h) (NoK.no _)
    have hB5 := hB5.keep0 E144
    have hT21 := hT21.keepG (Gr.of0 E144 NoB) (fun _ _ h => h) (NoK.no _)
    have hT2_21 := hT2_21.keepG (Gr.of0 E144 NoB) (fun _ _ h => h) (NoK.no _)
    have hu21 := hu21.keep0 E144
    have hb := hb.step0 E144
    refine ktk_end (G := fun t9 w' => 21 ∈ t9 → (Bx w' p 115 [(Value.slice none 0 0), kv, cv])) (todo := [8, 9, 17, 18, 21]) (i := 17) rfl (fun _ => hx) ?_
    refine ktk_step (rs := [8]) (by kernel_rfl) ?_
    refine one_mem ?_
    intro w150 E150 _ a150 hN150 hbs150 hdp150 o_ ho_; obtain rfl := Option.some.inj ho_
    have z_w150 := E150.size
    have hx := hx.keep0 E150
    have ok := ok.keep0 E150
    have oc := oc.keep0 E150
    have ks := all9 ks fun _ h => h.keep0 E150
    have hk := hk.keep0 E150
    have hrest := hrest.keepG (Gr.of0 E150 NoB) (fun _ _ h => h) (NoK.no _)
    have hB5 := hB5.keep0 E150
    have hT21 := hT21.keepG (Gr.of0 E150 NoB) (fun _ _ h => h) (NoK.no _)
    have hT2_21 := hT2_21.keepG (Gr.of0 E150 NoB) (fun _ _ h => h) (NoK.no _)
    have hu21 := hu21.keep0 E150
    have hB145 := hB145.keep0 E150
    have hb := hb.step0 E150
    have q150_68 : Sl a150 68 u21 := (hdp150 7 _ 68 (by kernel_rfl) rfl rfl).2 rfl
    refine op_bslice (e := 27) (pv := [(0, u21)]) (cs := [u21]) ⟨rfl, (ev_base hN150 rfl q150_68), trivial⟩ (by obtain ⟨_, _, _, rfl⟩ := hu21.sl; kernel_rfl) ?_
    intro w151 b152 lo_b152 hi_b152 hB154 E153
    have ne_b152_kv : kv.ownBlock ≠ some b152 := fun hh => by have := (ok.lt _ hh).2; omega
    have z_w151 := E153.size
    have hx := hx.keep0 E153
    have ok := ok.keep0 E153
    have oc := oc.keep0 E153
    have ks := all9 ks fun _ h => h.keep0 E153
    have hk := hk.keep0 E153
    have hrest := hrest.keepG (Gr.of0 E153 NoB) (fun _ _ h => h) (NoK.no _)
    have hB5 := hB5.keep0 E153
    have hT21 := hT21.keepG (Gr.of0 E153 NoB) (fun _ _ h => h) (NoK.no _)
    have hT2_21 := hT2_21.keepG (Gr.of0 E153 NoB) (fun _ _ h => h) (NoK.no _)
    have hu21 := hu21.keep0 E153
    have hB145 := hB145.keep0 E153
    have hb := hb.step0 E153
    refine ktk_end (G := fun t9 w' => 21 ∈ t9 → (Bx w' p 115 [(Value.slice none 0 0), kv, cv])) (todo := [8, 9, 18, 21]) (i := 8) rfl (fun _ => hx) ?_
    refine ktk_step (rs := [9]) (by kernel_rfl) ?_
    refine one_mem ?_
    intro w159 E159 _ a159 hN159 hbs159 hdp159 o_ ho_; obtain rfl := Option.some.inj ho_
    have z_w159 := E159.size
    have hx := hx.keep0 E159
    have ok := ok.keep0 E159
    have oc := oc.keep0 E159
    have ks := all9 ks fun _ h => h.keep0 E159
    have hk := hk.keep0 E159
    have hrest := hrest.keepG (Gr.of0 E159 NoB) (fun _ _ h => h) (NoK.no _)
    have hB5 := hB5.keep0 E159
    have hT21 := hT21.keepG (Gr.of0 E159 NoB) (fun _ _ h => h) (NoK.no _)
    have hT2_21 := hT2_21.keepG (Gr.of0 E159 NoB) (fun _ _ h => h) (NoK.no _)
    have hu21 := hu21.keep0 E159
    have hB145 := hB145.keep0 E159
    have hB154 := hB154.keep0 E159
    have hb := hb.step0 E159
    have q159_66 : Sl a159 66 kv := (hdp159 5 _ 66 (by kernel_rfl) rfl rfl).2 rfl
    have q159_67 : Sl a159 67 (Value.int .i64 (((way (K.map Prod.snd) k) : Nat) : Int)) := (hdp159 6 _ 67 (by kernel_rfl) rfl rfl).2 rfl
    have q159_69 : Sl a159 69 (Value.slice (some ⟨b152, 0, none⟩) 1 1) := (Option.some.inj ((hdp159 8 _ 69 (by kernel_rfl) rfl rfl).1 rfl)).symm
    refine op_fn (vs := [kv, (Value.int .i64 (((way (K.map Prod.snd) k) : Nat) : Int)), (Value.slice (some ⟨b152, 0, none⟩) 1 1)]) ok67 ⟨(ev_base hN159 rfl q159_66), ⟨(ev_base hN159 rfl q159_67), ⟨(ev_base hN159 rfl q159_69), trivial⟩⟩⟩ (InsK ok hB154 (one_kd ks (fun _ h => h)) (by simp only [List.all_cons, List.all_nil, Bool.true_and, Bool.and_true, hu21.one]; try rfl) (by first | omega | (simp only [List.length_insertIdx, List.length_set, List.length_drop, List.length_take]; omega) | (simp; omega)) (by first | omega | (simp only [List.length_insertIdx, List.length_set, List.length_drop, List.length_take]; omega) | (simp; omega)) ne_b152_kv) ?_
    rintro v160 w161 ⟨E162, hO160, hm160⟩
    have dj163 : Dj G0 (Bl v160) := Dj.step hm160 (fun k hk => (hrest.lt k hk).2) djkG.symm
    have dj164 : Dj W1_21 (Bl v160) := Dj.step hm160 (fun k hk => (hT21.lt k hk).2) dj31.symm
    have dj165 : Dj W2_21 (Bl v160) := Dj.step hm160 (fun k hk => (hT2_21.lt k hk).2) dj37.symm
    have hin166 := inF_step (n := w.heap.size) hm160 (by omega) (fun k _ h => hNd.wk k h)
    have z_w161 := E162.size
    have hx := hx.keepO ok E162 (by decide)
    have oc := oc.keepT ok E162 (by decide)
    have ks := all9 ks fun _ h => h.keepT ok E162 (by decide)
    have hk := hk.keepT ok E162 (by decide)
    have hrest := hrest.keepG (Gr.of E162) djkG.symm (NoK.ofOwn ok (by decide))
    have hB5 := hB5.keepO ok E162 (by decide)
    have hT21 := hT21.keepG (Gr.of E162) dj31.symm (NoK.ofOwn ok (by decide))
    have hT2_21 := hT2_21.keepG (Gr.of E162) dj37.symm (NoK.ofOwn ok (by decide))
    have hu21 := hu21.keepT ok E162 (by decide)
    have hB145 := hB145.keepO ok E162 (by decide)
    have hb := hb.stepL E162 (fun k _ h => hNd.wk k h)
    have hO160 : Own w161 0 27 1 v160 (K.insertIdx (way (K.map Prod.snd) k) (u21, y21)).length ((K.insertIdx (way (K.map Prod.snd) k) (u21, y21)).flatMap cK) := hO160.cast (by rw [List.length_insertIdx, if_pos (by first | omega | (simp only [List.length_insertIdx, List.length_set, List.length_drop, List.length_take]; omega) | (simp; omega))]) (flat_ins cK_len (u21, y21) (by first | omega | (simp only [List.length_insertIdx, List.length_set, List.length_drop, List.length_take]; omega) | (simp; omega)))
    refine ktk_end (G := fun t9 w' => 21 ∈ t9 → (Bx w' p 115 [(Value.slice none 0 0), kv, cv])) (todo := [9, 18, 21]) (i := 9) rfl (fun _ => hx) ?_
    refine ktk_step (rs := [18]) (by kernel_rfl) ?_
    refine one_mem ?_
    intro w168 E168 _ a168 hN168 hbs168 hdp168 o_ ho_; obtain rfl := Option.some.inj ho_
    have z_w168 := E168.size
    have hx := hx.keep0 E168
    have oc := oc.keep0 E168
    have ks := all9 ks fun _ h => h.keep0 E168
    have hk := hk.keep0 E168
    have hrest := hrest.keepG (Gr.of0 E168 NoB) (fun _ _ h => h) (NoK.no _)
    have hB5 := hB5.keep0 E168
    have hT21 := hT21.keepG (Gr.of0 E168 NoB) (fun _ _ h => h) (NoK.no _)
    have hT2_21 := hT2_21.keepG (Gr.of0 E168 NoB) (fun _ _ h => h) (NoK.no _)
    have hu21 := hu21.keep0 E168
    have hB145 := hB145.keep0 E168
    have hO160 := hO160.keep0 E168
    have hb := hb.step0 E168
    have q168_74 : Sl a168 74 cv := (hdp168 13 _ 74 (by kernel_rfl) rfl rfl).2 rfl
    have q168_76 : Sl a168 76 (Value.int .i64 ((((way (K.map Prod.snd) k) : Nat) : Int) + 1)) := (hdp168 15 _ 76 (by kernel_rfl) rfl rfl).2 rfl
    have q168_78 : Sl a168 78 (Value.slice (some ⟨b143, 0, none⟩) 1 1) := (Option.some.inj ((hdp168 17 _ 78 (by kernel_rfl) rfl rfl).1 rfl)).symm
    refine op_fn (vs := [cv, (Value.int .i64 ((((way (K.map Prod.snd) k) : Nat) : Int) + 1)), (Value.slice (some ⟨b143, 0, none⟩) 1 1)]) ok85 ⟨(ev_base hN168 rfl q168_74), ⟨(ev_base hN168 rfl q168_76), ⟨(ev_base hN168 rfl q168_78), trivial⟩⟩⟩ (InsNI oc hB145 (one_pn _) rfl (by first | omega | (simp only [List.length_insertIdx, List.length_set, List.length_drop, List.length_take]; omega) | (simp; omega)) (by first | omega | (simp only [List.length_insertIdx, List.length_set, List.length_drop, List.length_take]; omega) | (simp; omega)) ne_b143_cv) ?_
    rintro v169 w170 ⟨E171, hO169, hm169⟩
    have dj172 : Dj G0 (Bl v169) := Dj.step hm169 (fun k hk => (hrest.lt k hk).2) djcG.symm
    have dj173 : Dj W1_21 (Bl v169) := Dj.step hm169 (fun k hk => (hT21.lt k hk).2) dj32.symm
    have dj174 : Dj W2_21 (Bl v169) := Dj.step hm169 (fun k hk => (hT2_21.lt k hk).2) dj38.symm
    have hin175 := inF_step (n := w.heap.size) hm169 (by omega) (fun k _ h => hNd.wc k h)
    have z_w170 := E171.size
    have hx := hx.keepO oc E171 (by decide)
    have ks := all9 ks fun _ h => h.keepT oc E171 (by decide)
    have hk := hk.keepT oc E171 (by decide)
    have hrest := hrest.keepG (Gr.of E171) djcG.symm (NoK.ofOwn oc (by decide))
    have hB5 := hB5.keepO oc E171 (by decide)
    have hT21 := hT21.keepG (Gr.of E171) dj32.symm (NoK.ofOwn oc (by decide))
    have hT2_21 := hT2_21.keepG (Gr.of E171) dj38.symm (NoK.ofOwn oc (by decide))
    have hu21 := hu21.keepT oc E171 (by decide)
    have hO160 := hO160.keepT oc E171 (by decide)
    have hb := hb.stepL E171 (fun k _ h => hNd.wc k h)
    have hO169 : Own w170 0 69 1 v169 (P.insertIdx (((way (K.map Prod.snd) k)) + 1) q21).length ((P.insertIdx (((way (K.map Prod.snd) k)) + 1) q21).flatMap cN) := hO169.cast (by rw [List.length_insertIdx, if_pos (by first | omega | (simp only [List.length_insertIdx, List.length_set, List.length_drop, List.length_take]; omega) | (simp; omega))]) (flat_ins cN_len q21 (by first | omega | (simp only [List.length_insertIdx, List.length_set, List.length_drop, List.length_take]; omega) | (simp; omega)))
    refine ktk_end (G := fun t9 w' => 21 ∈ t9 → (Bx w' p 115 [(Value.slice none 0 0), kv, cv])) (todo := [18, 21]) (i := 18) rfl (fun _ => hx) ?_
    refine ktk_step (rs := [21]) (by kernel_rfl) ?_
    refine one_mem ?_
    intro w177 E177 _ a177 hN177 hbs177 hdp177 o_ ho_; obtain rfl := Option.some.inj ho_
    have z_w177 := E177.size
    have hx := hx.keep0 E177
    have ks := all9 ks fun _ h => h.keep0 E177
    have hk := hk.keep0 E177
    have hrest := hrest.keepG (Gr.of0 E177 NoB) (fun _ _ h => h) (NoK.no _)
    have hB5 := hB5.keep0 E177
    have hT21 := hT21.keepG (Gr.of0 E177 NoB) (fun _ _ h => h) (NoK.no _)
    have hT2_21 := hT2_21.keepG (Gr.of0 E177 NoB) (fun _ _ h => h) (NoK.no _)
    have hu21 := hu21.keep0 E177
    have hO160 := hO160.keep0 E177
    have hO169 := hO169.keep0 E177
    have hb := hb.step0 E177
    have q177_81 : Sl a177 81 (ptr p 1) := (hdp177 20 _ 81 (by kernel_rfl) rfl rfl).2 rfl
    have q177_70 : Sl a177 70 v160 := (Option.some.inj ((hdp177 9 _ 70 (by kernel_rfl) rfl rfl).1 rfl)).symm
    have hx_old := hx
    refine op_store (vs := [v160]) (cs' := [(Value.slice none 0 0), v160, cv]) size90 (ev_base hN177 rfl q177_81) (ev_base hN177 rfl q177_70) hO160.cl rfl (by simp only [List.all_cons, List.all_nil, Bool.true_and, Bool.and_true, hO160.one]; try rfl) hx (Nat.le_of_ble_eq_true rfl) rfl ?_
    intro w180 hx E181
    have z_w180 := E181.size
    have ks := all9 ks fun _ h => h.keepX hx_old E181 (by decide)
    have hk := hk.keepX hx_old E181 (by decide)
    have hrest := hrest.keepG (Gr.of E181) (Dj.one djpG) (NoK.ofBx hx_old (by decide))
    have hB5 := hB5.keep E181 (fun hh => hB5.ne hx_old (by decide) (Option.some.inj hh))
    have hT21 := hT21.keepG (Gr.of E181) (Dj.one dj30) (NoK.ofBx hx_old (by decide))
    have hT2_21 := hT2_21.keepG (Gr.of E181) (Dj.one dj36) (NoK.ofBx hx_old (by decide))
    have hu21 := hu21.keepX hx_old E181 (by decide)
    have hO160 := hO160.keepX hx_old E181 (by decide)
    have hO169 := hO169.keepX hx_old E181 (by decide)
    have hb := hb.stepB E181 hNd.wp
    refine ktk_end0 (G := fun t9 w' => 21 ∈ t9 → (Bx w' p 115 [(Value.slice none 0 0), kv, cv])) (todo := [21]) (i := 21) rfl (fun h => absurd h (by decide)) ?_
    intro w182 E182 a182 hN182 hd182 hbs182 hph182
    have hd182 := hd182.trans ((by simp only [putsL_defers] : _ = _).trans hd)
    have z_w182 := E182.size
    have ks := all9 ks fun _ h => h.keep0 E182
    have hk := hk.keep0 E182
    have hrest := hrest.keepG (Gr.of0 E182 NoB) (fun _ _ h => h) (NoK.no _)
    have hB5 := hB5.keep0 E182
    have hT21 := hT21.keepG (Gr.of0 E182 NoB) (fun _ _ h => h) (NoK.no _)
    have hT2_21 := hT2_21.keepG (Gr.of0 E182 NoB) (fun _ _ h => h) (NoK.no _)
    have hu21 := hu21.keep0 E182
    have hO160 := hO160.keep0 E182
    have hO169 := hO169.keep0 E182
    have hx := hx.keep0 E182
    have hb := hb.step0 E182
    have s182_0 := (hbs182 0 rfl).trans (sl_base hN rfl s0)
    have s182_4 := (hbs182 4 rfl).trans (sl_hit hN rfl)
    have s182_5 := (hbs182 5 rfl).trans (sl_hit hN rfl)
    have s182_6 := (hbs182 6 rfl).trans (sl_hit hN rfl)
    have s182_62 : Sl a182 62 (ptr p 0) := (hph182 1 _ 62 rfl rfl).2 rfl
    have s182_79 : Sl a182 79 v169 := (Option.some.inj ((hph182 18 _ 79 rfl rfl).1 rfl)).symm
    refine split_end ?_
    refine from_seq (tl := [_, _, _]) (by decide) (by kernel_rfl) rfl ?_
    refine op_nil (ev_base hN182 rfl s182_62) (op_field fld115_2 (ev_hit hN182 rfl) ?_)
    have hx_old := hx
    refine op_store (vs := [v169]) (cs' := [(Value.slice none 0 0), v160, v169]) size113 (ev_hit hN182 rfl) (ev_base hN182 rfl s182_79) hO169.cl rfl (by simp only [List.all_cons, List.all_nil, Bool.true_and, Bool.and_true, hO169.one]; try rfl) hx (Nat.le_of_ble_eq_true rfl) rfl ?_
    intro w185 hx E186
    have z_w185 := E186.size
    have ks := all9 ks fun _ h => h.keepX hx_old E186 (by decide)
    have hk := hk.keepX hx_old E186 (by decide)
    have hrest := hrest.keepG (Gr.of E186) (Dj.one djpG) (NoK.ofBx hx_old (by decide))
    have hB5 := hB5.keep E186 (fun hh => hB5.ne hx_old (by decide) (Option.some.inj hh))
    have hT21 := hT21.keepG (Gr.of E186) (Dj.one dj30) (NoK.ofBx hx_old (by decide))
    have hT2_21 := hT2_21.keepG (Gr.of E186) (Dj.one dj36) (NoK.ofBx hx_old (by decide))
    have hu21 := hu21.keepX hx_old E186 (by decide)
    have hO160 := hO160.keepX hx_old E186 (by decide)
    have hO169 := hO169.keepX hx_old E186 (by decide)
    have hb := hb.stepB E186 hNd.wp
    refine reg_nil (hK8 _ _ ?_)
    exact hJ53 _ _ _ hN182 hd182 ⟨v160, v169, (sl_base hN182 rfl s182_0), (sl_base hN182 rfl s182_4), (sl_base hN182 rfl s182_5), (sl_base hN182 rfl s182_6), dj163.symm, dj164.symm, dj165.symm, hin166, dj172.symm, dj173.symm, dj174.symm, hin175, hb, (by omega), ks, hk, hrest, hB5, hT21, hT2_21, hu21, (hO160.cast (n' := (K.insertIdx (way (K.map Prod.snd) k) (u21, y21)).length) (cs' := (K.insertIdx (way (K.map Prod.snd) k) (u21, y21)).flatMap cK) (by first | rfl | (simp; done) | (simp only [List.length_append, List.length_cons, List.length_nil]; omega)) (by first | rfl | simp [cK, cN, cI])), (hO169.cast (n' := (P.insertIdx ((way (K.map Prod.snd) k) + 1) q21).length) (cs' := (P.insertIdx ((way (K.map Prod.snd) k) + 1) q21).flatMap cN) (by first | rfl | (simp; done) | (simp only [List.length_append, List.length_cons, List.length_nil]; omega)) (by first | rfl | simp [cK, cN, cI])), hx⟩
  ·
   rintro a53 w53 hN53 hd53 ⟨vk, vc, s53_0, s53_4, s53_5, s53_6, dj44, dj45, dj46, hin47, dj48, dj49, dj50, hin51, hb, zl_w53, ks, hk, hrest, hB5, hT21, hT2_21, hu21, hO54, hO55, hbj52⟩
   have z_w53 := hb.size
   refine seq_any fun K187 hK187 => one_reg ?_
   have hl1 : (K.insertIdx (way (K.map Prod.snd) k) (u21, y21)).length = K.length + 1 := by rw [List.length_insertIdx, if_pos hwl]
   have hl2 : (P.insertIdx ((way (K.map Prod.snd) k) + 1) q21).length = P.length + 1 := by rw [List.length_insertIdx, if_pos (by omega)]
   have ks188 : ∀ x9 ∈ (K.insertIdx (way (K.map Prod.snd) k) (u21, y21)), Own w53 0 5 1 x9.1 x9.2.length (x9.2.map u8v) := kks_ins ks hu21 hwl
   refine op_move (ev_base hN53 rfl s53_0) ?_
   rcases Bool.eq_false_or_eq_true (decide ((K.insertIdx (way (K.map Prod.snd) k) (u21, y21)).length ≤ 6)) with k86 | k86
   · -- 86T
    refine op_fn (vs := [(ptr p 0)]) ok86 ⟨(ev_hit hN53 rfl), trivial⟩ (Ret.flip (halvesNsI hbj52 hO54 hO55 (by first | omega | (simp only [List.length_insertIdx, List.length_set, List.length_drop, List.length_take]; omega) | (simp; omega)) (of_decide_eq_true k86))) ?_
    rintro _ _ ⟨rfl, rfl⟩
    refine op_move (ev_hit hN53 rfl) (op_extract (ev_hit hN53 rfl) rfl ?_)
    refine op_extract (ev_hit hN53 rfl) rfl ?_
    refine op_assign (ev_hit hN53 rfl) ?_
    refine op_assign (ev_hit hN53 rfl) ?_
    refine reg_nil ?_
    refine hK187 _ _ (seq_any fun K189 hK189 => one_reg (op_move (ev_base hN53 rfl s53_4) (op_move (ev_hit hN53 rfl) (op_move (ev_hit hN53 rfl) (op_assign (ev_hit hN53 rfl) ?_)))))
    refine op_assign (ev_hit hN53 rfl) ?_
    refine op_assign (ev_hit hN53 rfl) ?_
    refine reg_nil (hK189 _ _ (wp_ret ?_))
    refine retN (rs := [.tmp 4, .tmp 5, .tmp 6]) (vs := [(Value.bool (putT h k x c).1), (Value.slice none 0 0), (Value.pointer none)]) rfl hd53 ⟨(ev_hit hN53 rfl), ⟨(ev_hit hN53 rfl), ⟨(ev_hit hN53 rfl), trivial⟩⟩⟩ rfl ⟨_, rfl, ?_⟩
    exact ⟨hb, _, _, by rw [(put_some (u := u21) hc hr21 hwl)]; rfl, out_node_small (K := (K.insertIdx (way (K.map Prod.snd) k) (u21, y21))) (ts := ((cs.set (way (K.map Prod.snd) k) (putT h k x c).2.1).insertIdx ((way (K.map Prod.snd) k) + 1) t2_21)) ((congrArg Prod.snd (put_some (u := u21) hc hr21 hwl)).trans (halves_nsmall (by simpa using of_decide_eq_true k86))) hbj52 hO54 hO55 ks188 (kks_ins hNd.kr hur21 hwl) (Kids.ins (i := (way (K.map Prod.snd) k) + 1) (Kids.back1 (i := (way (K.map Prod.snd) k)) (A := TreeR kI R w53 h) hrest hPc hic hT21 dj34.symm) (by rw [List.length_set]; omega) hT2_21 (fun k h1 h2 => h2.elim (hd21.symm k h1) (dj40.symm k h1))) (fun h9 => h9.elim (fun h8 => dj36 h8) (fun h8 => h8.elim (fun h8 => dj30 h8) (fun h8 => djpG h8))) (fun j hj h9 => h9.elim (fun h8 => dj46 j hj h8) (fun h8 => h8.elim (fun h8 => dj45 j hj h8) (fun h8 => dj44 j hj h8))) (fun j hj h9 => h9.elim (fun h8 => dj50 j hj h8) (fun h8 => h8.elim (fun h8 => dj49 j hj h8) (fun h8 => dj48 j hj h8))) (nodeW_in (fun _ => hNd.wp) hin47 hin51 (fun j hj h9 => h9.elim (fun h8 => hin43 j hj h8) (fun h8 => h8.elim (fun h8 => hin42 j hj h8) (fun h8 => (fun j _ q => hNd.wg j (hGs j q)) j hj h8))))⟩
   · -- 86F
    refine op_fn (vs := [(ptr p 0)]) ok86 ⟨(ev_hit hN53 rfl), trivial⟩ (halvesNbI hbj52 hO54 hO55 ks188 (by first | omega | (simp only [List.length_insertIdx, List.length_set, List.length_drop, List.length_take]; omega) | (simp; omega)) (by have := of_decide_eq_false k86; omega) (by first | omega | (simp only [List.length_insertIdx, List.length_set, List.length_drop, List.length_take]; omega) | (simp; omega))) ?_
    rintro _ w191 ⟨E192, q190, qk190, qc190, rfl, hx190, oa190, ob190, lo190, hB190, oc190, od190⟩
    have ht193 := hbj52.lt
    have ht194 := hO54.lt
    have ht195 := hO55.lt
    have ht196 := hrest.lt
    have ht197 := hT21.lt
    have ht198 := hT2_21.lt
    have E192 := E192.grown (row := some p) (fun k _ h => by rw [h])
    have hbj52_old := hbj52
    have z_w191 := E192.size
    have hrest := hrest.keepG (Gr.of E192) (Dj.one djpG) (NoK.ofBx hbj52_old (by decide))
    have hT21 := hT21.keepG (Gr.of E192) (Dj.one dj30) (NoK.ofBx hbj52_old (by decide))
    have hT2_21 := hT2_21.keepG (Gr.of E192) (Dj.one dj36) (NoK.ofBx hbj52_old (by decide))
    have ks188 := all9 ks188 fun _ h => h.keepX hbj52_old E192 (by decide)
    have hb := hb.stepB E192 hNd.wp
    refine op_move (ev_hit hN53 rfl) (op_extract (ev_hit hN53 rfl) rfl ?_)
    refine op_extract (ev_hit hN53 rfl) rfl ?_
    refine op_assign (ev_hit hN53 rfl) ?_
    refine op_assign (ev_hit hN53 rfl) ?_
    refine reg_nil ?_
    refine hK187 _ _ (seq_any fun K199 hK199 => one_reg (op_move (ev_base hN53 rfl s53_4) (op_move (ev_hit hN53 rfl) (op_move (ev_hit hN53 rfl) (op_assign (ev_hit hN53 rfl) ?_)))))
    refine op_assign (ev_hit hN53 rfl) ?_
    refine op_assign (ev_hit hN53 rfl) ?_
    refine reg_nil (hK199 _ _ (wp_ret ?_))
    refine retN (rs := [.tmp 4, .tmp 5, .tmp 6]) (vs := [(Value.bool (putT h k x c).1), ((K.insertIdx (way (K.map Prod.snd) k) (u21, y21)).getD ((K.insertIdx (way (K.map Prod.snd) k) (u21, y21)).length / 2) default).1, (ptr q190 0)]) rfl hd53 ⟨(ev_hit hN53 rfl), ⟨(ev_hit hN53 rfl), ⟨(ev_hit hN53 rfl), trivial⟩⟩⟩ rfl ⟨_, rfl, ?_⟩
    exact ⟨hb, _, _, by rw [(put_some (u := u21) hc hr21 hwl)]; rfl, out_node_big (K := (K.insertIdx (way (K.map Prod.snd) k) (u21, y21))) (ts := ((cs.set (way (K.map Prod.snd) k) (putT h k x c).2.1).insertIdx ((way (K.map Prod.snd) k) + 1) t2_21)) ((congrArg Prod.snd (put_some (u := u21) hc hr21 hwl)).trans (halves_nbig (by have := of_decide_eq_false k86; omega))) (by have := of_decide_eq_false k86; omega) hx190 oa190 ob190 hB190 oc190 od190 lo190 (by omega) ks188 (kks_ins hNd.kr hur21 hwl) (Kids.ins (i := (way (K.map Prod.snd) k) + 1) (Kids.back1 (i := (way (K.map Prod.snd) k)) (A := TreeR kI R w191 h) hrest hPc hic hT21 dj34.symm) (by rw [List.length_set]; omega) hT2_21 (fun k h1 h2 => h2.elim (hd21.symm k h1) (dj40.symm k h1))) (fun h9 => h9.elim (fun h8 => dj36 h8) (fun h8 => h8.elim (fun h8 => dj30 h8) (fun h8 => djpG h8))) (fun j hj h9 => h9.elim (fun h8 => dj46 j ((hiV_ob _ _).symm.trans hj) h8) (fun h8 => h8.elim (fun h8 => dj45 j ((hiV_ob _ _).symm.trans hj) h8) (fun h8 => dj44 j ((hiV_ob _ _).symm.trans hj) h8))) (fun j hj h9 => h9.elim (fun h8 => dj50 j ((hiV_ob _ _).symm.trans hj) h8) (fun h8 => h8.elim (fun h8 => dj49 j ((hiV_ob _ _).symm.trans hj) h8) (fun h8 => dj48 j ((hiV_ob _ _).symm.trans hj) h8))) (nodeW_in (fun _ => hNd.wp) (inF_step (n := w.heap.size) (.inl (hiV_ob _ _)) (Nat.le_refl _) hin47) (inF_step (n := w.heap.size) (.inl (hiV_ob _ _)) (Nat.le_refl _) hin51) (fun j hj h9 => h9.elim (fun h8 => hin43 j hj h8) (fun h8 => h8.elim (fun h8 => hin42 j hj h8) (fun h8 => (fun j _ q => hNd.wg j (hGs j q)) j hj h8)))) (nodeW_lt ht193 (fun j h9 => (ht194 j ((hiV_ob _ _).symm.trans h9)).2) (fun j h9 => (ht195 j ((hiV_ob _ _).symm.trans h9)).2) (fun j h9 => h9.elim (fun h8 => (ht198 j h8).2) (fun h8 => h8.elim (fun h8 => (ht197 j h8).2) (fun h8 => (ht196 j h8).2))))⟩
 · -- 55F
  refine op_fn (vs := [(ptr (P.getD ((way (K.map Prod.snd) k)) default) 0), (Value.agg #[yv, (Value.int .i64 x)])]) ok48 ⟨(ev_hit hN rfl), ⟨(ev_hit hN rfl), trivial⟩⟩ (IH hkid hcO (by have := (hz c (List.mem_of_getElem? hc)).2; omega) hk hkr) ?_
  rintro _ w201 ⟨E202, u200, m200, rfl, ho200⟩
  have bd203 := hx.lt
  have bd204 := ok.lt
  have bd205 := oc.lt
  have bd206 := hk.lt
  have bd207 := hrest.lt
  have bd208 := hB5.lt
  obtain ⟨hr200, rfl, rfl, W1_200, hT200, hN1_200⟩ := outR_none k55 ho200
  have hkid_old := hkid
  have z_w201 := E202.size
  have hx := hx.keepG E202 djpf
  have ok := ok.keepG E202 djkf
  have oc := oc.keepG E202 djcf
  have ks : ∀ x9 ∈ K, Own w201 0 5 1 x9.1 x9.2.length (x9.2.map u8v) := fun x9 hx9 => (ks x9 hx9).keepG E202 (hkid_old.notOwn (ks x9 hx9) (by decide) (by decide) (by decide) (by decide))
  have hk := hk.keepG E202 (hkid_old.notOwn hk (by decide) (by decide) (by decide) (by decide))
  have hrest := hrest.keepG E202 hfG.symm (hkid_old.noK kI_fine)
  have hb := hb.stepF E202 (fun k _ h => hNd.wg k (hfs k h))
  have dj209 : ¬ W1_200 p := ne_stepF hN1_200 bd203 djpf
  have dj210 : Dj (Bl kv) W1_200 := Dj.stepF hN1_200 (fun k hk => (bd204 k hk).2) djkf
  have dj211 : Dj (Bl cv) W1_200 := Dj.stepF hN1_200 (fun k hk => (bd205 k hk).2) djcf
  have dj213 : Dj G0 W1_200 := Dj.stepF hN1_200 (fun k hk => (bd207 k hk).2) hfG.symm
  have hin215 := in_newF (hN1_200.mono (t := w.heap.size) (by omega)) (fun k hk => hNd.wg k (hfs k hk))
  refine from_next ?_
  refine from_still (m := 16) 7 (hd := [_, _, _, _, _, _, _]) (by kernel_rfl) rfl rfl ?_
  refine st_step rfl (fun _ h9 => op_move (ev_hit hN rfl) h9) ?_
  refine st_step rfl (fun _ h9 => op_extract (ev_hit hN rfl) rfl h9) ?_
  refine st_step rfl (fun _ h9 => op_extract (ev_hit hN rfl) rfl h9) ?_
  refine st_step rfl (fun _ h9 => op_extract (ev_hit hN rfl) rfl h9) ?_
  refine st_step rfl (fun _ h9 => op_assign (ev_hit hN rfl) h9) ?_
  refine st_step rfl (fun _ h9 => op_assign (ev_hit hN rfl) h9) ?_
  refine st_step rfl (fun _ h9 => op_assign (ev_hit hN rfl) h9) ?_
  refine st_nil ?_
  refine from_end ?_ rfl
  refine hK15 _ _ (seq_any fun K216 hK216 => one_reg (op_move (ev_hit hN rfl) (op_pne_none ptrt69 (ev_hit hN rfl) rfl ?_)))
  refine reg_nil (hK216 _ _ (wp_cond_false (ev_hit hN rfl) ?_))
  refine wp_skip ?_
  refine hK8 _ _ (seq_any fun K217 hK217 => one_reg ?_)
  skip
  refine op_move (ev_base hN rfl s0) ?_
  rcases Bool.eq_false_or_eq_true (decide (K.length ≤ 6)) with k86 | k86
  · -- 86T
   refine op_fn (vs := [(ptr p 0)]) ok86 ⟨(ev_hit hN rfl), trivial⟩ (Ret.flip (halvesNsI hx ok oc (by first | omega | (simp only [List.length_insertIdx, List.length_set, List.length_drop, List.length_take]; omega) | (simp; omega)) (of_decide_eq_true k86))) ?_
   rintro _ _ ⟨rfl, rfl⟩
   refine op_move (ev_hit hN rfl) (op_extract (ev_hit hN rfl) rfl ?_)
   refine op_extract (ev_hit hN rfl) rfl ?_
   refine op_assign (ev_hit hN rfl) ?_
   refine op_assign (ev_hit hN rfl) ?_
   refine reg_nil ?_
   refine hK217 _ _ (seq_any fun K218 hK218 => one_reg (op_move (ev_hit hN rfl) (op_move (ev_hit hN rfl) (op_move (ev_hit hN rfl) (op_assign (ev_hit hN rfl) ?_)))))
   refine op_assign (ev_hit hN rfl) ?_
   refine op_assign (ev_hit hN rfl) ?_
   refine reg_nil (hK218 _ _ (wp_ret ?_))
   refine retN (rs := [.tmp 4, .tmp 5, .tmp 6]) (vs := [(Value.bool (putT h k x c).1), (Value.slice none 0 0), (Value.pointer none)]) rfl hd ⟨(ev_hit hN rfl), ⟨(ev_hit hN rfl), ⟨(ev_hit hN rfl), trivial⟩⟩⟩ rfl ⟨_, rfl, ?_⟩
   exact ⟨hb, _, _, by rw [(put_none hc hr200)]; rfl, out_node_small (K := K) (ts := (cs.set (way (K.map Prod.snd) k) (putT h k x c).2.1)) ((congrArg Prod.snd (put_none hc hr200)).trans (halves_nsmall (by simpa using of_decide_eq_true k86))) hx ok oc ks hNd.kr (Kids.back1 (i := (way (K.map Prod.snd) k)) (A := TreeR kI R w201 h) hrest hPc hic hT200 dj213.symm) (fun h9 => h9.elim (fun h8 => dj209 h8) (fun h8 => djpG h8)) (fun j hj h9 => h9.elim (fun h8 => dj210 j hj h8) (fun h8 => djkG j hj h8)) (fun j hj h9 => h9.elim (fun h8 => dj211 j hj h8) (fun h8 => djcG j hj h8)) (nodeW_in (fun _ => hNd.wp) (fun k _ h => hNd.wk k h) (fun k _ h => hNd.wc k h) (fun j hj h9 => h9.elim (fun h8 => hin215 j hj h8) (fun h8 => (fun j _ q => hNd.wg j (hGs j q)) j hj h8)))⟩
  · -- 86F
   refine op_fn (vs := [(ptr p 0)]) ok86 ⟨(ev_hit hN rfl), trivial⟩ (halvesNbI hx ok oc ks (by first | omega | (simp only [List.length_insertIdx, List.length_set, List.length_drop, List.length_take]; omega) | (simp; omega)) (by have := of_decide_eq_false k86; omega) (by first | omega | (simp only [List.length_insertIdx, List.length_set, List.length_drop, List.length_take]; omega) | (simp; omega))) ?_
   rintro _ w220 ⟨E221, q219, qk219, qc219, rfl, hx219, oa219, ob219, lo219, hB219, oc219, od219⟩
   have ht222 := hx.lt
   have ht223 := ok.lt
   have ht224 := oc.lt
   have ht225 := hrest.lt
   have ht226 := hT200.lt
   have E221 := E221.grown (row := some p) (fun k _ h => by rw [h])
   have hx_old := hx
   have z_w220 := E221.size
   have ks := all9 ks fun _ h => h.keepX hx_old E221 (by decide)
   have hrest := hrest.keepG (Gr.of E221) (Dj.one djpG) (NoK.ofBx hx_old (by decide))
   have hT200 := hT200.keepG (Gr.of E221) (Dj.one dj209) (NoK.ofBx hx_old (by decide))
   have hb := hb.stepB E221 hNd.wp
   refine op_move (ev_hit hN rfl) (op_extract (ev_hit hN rfl) rfl ?_)
   refine op_extract (ev_hit hN rfl) rfl ?_
   refine op_assign (ev_hit hN rfl) ?_
   refine op_assign (ev_hit hN rfl) ?_
   refine reg_nil ?_
   refine hK217 _ _ (seq_any fun K227 hK227 => one_reg (op_move (ev_hit hN rfl) (op_move (ev_hit hN rfl) (op_move (ev_hit hN rfl) (op_assign (ev_hit hN rfl) ?_)))))
   refine op_assign (ev_hit hN rfl) ?_
   refine op_assign (ev_hit hN rfl) ?_
   refine reg_nil (hK227 _ _ (wp_ret ?_))
   refine retN (rs := [.tmp 4, .tmp 5, .tmp 6]) (vs := [(Value.bool (putT h k x c).1), (K.getD (K.length / 2) default).1, (ptr q219 0)]) rfl hd ⟨(ev_hit hN rfl), ⟨(ev_hit hN rfl), ⟨(ev_hit hN rfl), trivial⟩⟩⟩ rfl ⟨_, rfl, ?_⟩
   exact ⟨hb, _, _, by rw [(put_none hc hr200)]; rfl, out_node_big (K := K) (ts := (cs.set (way (K.map Prod.snd) k) (putT h k x c).2.1)) ((congrArg Prod.snd (put_none hc hr200)).trans (halves_nbig (by have := of_decide_eq_false k86; omega))) (by have := of_decide_eq_false k86; omega) hx219 oa219 ob219 hB219 oc219 od219 lo219 (by omega) ks hNd.kr (Kids.back1 (i := (way (K.map Prod.snd) k)) (A := TreeR kI R w220 h) hrest hPc hic hT200 dj213.symm) (fun h9 => h9.elim (fun h8 => dj209 h8) (fun h8 => djpG h8)) (fun j hj h9 => h9.elim (fun h8 => dj210 j ((hiV_ob _ _).symm.trans hj) h8) (fun h8 => djkG j ((hiV_ob _ _).symm.trans hj) h8)) (fun j hj h9 => h9.elim (fun h8 => dj211 j ((hiV_ob _ _).symm.trans hj) h8) (fun h8 => djcG j ((hiV_ob _ _).symm.trans hj) h8)) (nodeW_in (fun _ => hNd.wp) (inF_step (n := w.heap.size) (.inl (hiV_ob _ _)) (Nat.le_refl _) (fun k _ h => hNd.wk k h)) (inF_step (n := w.heap.size) (.inl (hiV_ob _ _)) (Nat.le_refl _) (fun k _ h => hNd.wc k h)) (fun j hj h9 => h9.elim (fun h8 => hin215 j hj h8) (fun h8 => (fun j _ q => hNd.wg j (hGs j q)) j hj h8))) (nodeW_lt ht222 (fun j h9 => (ht223 j ((hiV_ob _ _).symm.trans h9)).2) (fun j h9 => (ht224 j ((hiV_ob _ _).symm.trans h9)).2) (fun j h9 => h9.elim (fun h8 => (ht226 j h8).2) (fun h8 => (ht225 j h8).2)))⟩

end Go.Proofs.Ytcpfdfejojghbaa

/- Walks, written by a program: what each function of the translation hands back. -/
namespace Go.Proofs.Ytcpfdfejojghbaa
open Go.Gx Go.RowKit
attribute [local irreducible] wpList wpStill Code.wp Calls
open Go.Bt
theorem putNS {h : Nat} {k : List UInt8} {yv : Value} {x : List UInt8} {R W G : Nat → Prop} {p : Nat} {kv cv : Value} {K : List DK} {P : List Nat} {cs : List (Tr (List UInt8) h)} {w : World} (IH : PutS h) (hNd : NodeR kS R w p kv cv K P G W) (hKs : KidsR kS R w h P cs G) (hO : Nd h (K.map Prod.snd) cs) (hz : ∀ c ∈ cs, okSz h c) (hn : K.length ≤ 6) (hk : Own w 0 5 1 yv k.length (k.map u8v)) (hkr : ∀ j, Bl yv j → R j) : Ret Try.prog 40 #[(ptr p 0), (Value.agg #[yv, (Value.string (bs x))])] w (fun v' w' => Gr w w' W ∧ ∃ u m, v' = .tuple #[.bool (putT (h + 1) k x ((K.map Prod.snd, cs) : Tr (List UInt8) (h + 1))).1, u, m] ∧ OutR kS R w' w.heap.size W (h + 1) p (putT (h + 1) k x ((K.map Prod.snd, cs) : Tr (List UInt8) (h + 1))).2 u m) := by
 have hx : Bx w p 93 [.slice none 0 0, kv, cv] := hNd.bx
 have ok := hNd.ok
 have oc : Own w 0 86 1 cv P.length (P.flatMap cN) := hNd.oc
 have ks := hNd.ks
 have hs := hO.2.1
 have hi_p := hx.lt
 have hPc : P.length = cs.length := hKs.len
 have hcl : cs.length = K.length + 1 := hO.1.trans (by simp)
 have hPl : P.length = K.length + 1 := hPc.trans hcl
 have hwl : (way (K.map Prod.snd) k) ≤ K.length := by have := way_le (K.map Prod.snd) k; simpa using this
 obtain ⟨c, hc, hcO, hcw⟩ := hO.at (i := (way (K.map Prod.snd) k)) (by simpa using hwl)
 have hic : (way (K.map Prod.snd) k) < cs.length := by omega
 obtain ⟨f, G0, hkid, hrest, hfG, hfs, hGs⟩ := Kids.cutc hKs hc
 have hkid : TreeR kS R w h (P.getD (way (K.map Prod.snd) k) default) c f := hkid
 have hrest : KidsR kS R w h (P.eraseIdx (way (K.map Prod.snd) k)) (cs.eraseIdx (way (K.map Prod.snd) k)) G0 := hrest
 have djpf : ¬ f p := fun q => hNd.np (hfs p q)
 have djpG : ¬ G0 p := fun q => hNd.np (hGs p q)
 have djkf := hNd.nk.mono hfs
 have djkG := hNd.nk.mono hGs
 have djcf := hNd.nc.mono hfs
 have djcG := hNd.nc.mono hGs
 have hb := Gr.refl w W
 refine enter (N := 92) Try.func40 rfl rfl (by simp) fun a0 hN hd hA => ?_
 have s0 : a0.tmps.getD 0 undef = (ptr p 0) := hA 0 (by simp)
 have s1 : a0.tmps.getD 1 undef = (Value.agg #[yv, (Value.string (bs x))]) := hA 1 (by simp)
 clear hA
 refine seq_any fun K1 hK1 => one_reg (op_box (cs := [yv, (Value.string (bs x))]) (ev_base hN rfl s1) rfl ?_)
 intro w2 b3 lo_b3 hi_b3 hB5 E4
 have dj6 : ¬ f b3 := fun hf => by have := (hkid.lt _ hf).2; omega
 have z_w2 := E4.size
 have hx := hx.keep0 E4
 have ok := ok.keep0 E4
 have oc := oc.keep0 E4
 have ks := all9 ks fun _ h => h.keep0 E4
 have hk := hk.keep0 E4
 have hkid := hkid.keepG (Gr.of0 E4 NoB) (fun _ _ h => h) (NoK.no _)
 have hrest := hrest.keepG (Gr.of0 E4 NoB) (fun _ _ h => h) (NoK.no _)
 have hb := hb.step0 E4
 refine op_assign rfl (op_assign rfl (op_assign rfl ?_))
 refine reg_nil (hK1 _ _ (seq_any fun K8 hK8 => seq_any fun K9 hK9 => one_reg (op_move (ev_base hN rfl s0) (op_fn (vs := [(ptr p 0)]) ok63 ⟨(ev_hit hN rfl), trivial⟩ (Ret.flip (leafNS hx ok oc (by omega) (by omega))) ?_))))
 rintro _ _ ⟨rfl, rfl⟩
 refine reg_nil (hK9 _ _ (wp_cond_false (ev_hit hN rfl) ?_))
 refine seq_any fun K10 hK10 => one_reg (op_move (ev_base hN rfl s0) (op_field fld98_0 (ev_hit hN rfl) (op_load1 (v := yv) one27 (ev_hit hN rfl) (hB5.cell rfl) (op_fn (vs := [(ptr p 0), yv]) ok66 ⟨(ev_hit hN rfl), ⟨(ev_hit hN rfl), trivial⟩⟩ (wayS hx ok oc ks hs (by omega) (hk.rdw.mono (Nat.zero_le _) (by omega))) ?_))))
 rintro _ w11 ⟨E12, rfl⟩
 have E12 := grown_of_below E12
 have z_w11 := E12.size
 have hx := hx.keep0 E12
 have ok := ok.keep0 E12
 have oc := oc.keep0 E12
 have ks := all9 ks fun _ h => h.keep0 E12
 have hk := hk.keep0 E12
 have hkid := hkid.keepG (Gr.of0 E12 NoB) (fun _ _ h => h) (NoK.no _)
 have hrest := hrest.keepG (Gr.of0 E12 NoB) (fun _ _ h => h) (NoK.no _)
 have hB5 := hB5.keep0 E12
 have hb := hb.step0 E12
 refine op_assign (ev_hit hN rfl) ?_
 refine reg_nil (hK10 _ _ (seq_any fun K13 hK13 => one_reg (op_assign rfl (reg_nil (hK13 _ _ ?_)))))
 refine seq_any fun K14 hK14 => one_reg (op_assign rfl (reg_nil (hK14 _ _ (seq_any fun K15 hK15 => reg_from mixed ?_))))
 intro w17 E16
 have z_w17 := E16.size
 have hx := hx.keep0 E16
 have ok := ok.keep0 E16
 have oc := oc.keep0 E16
 have ks := all9 ks fun _ h => h.keep0 E16
 have hk := hk.keep0 E16
 have hkid := hkid.keepG (Gr.of0 E16 NoB) (fun _ _ h => h) (NoK.no _)
 have hrest := hrest.keepG (Gr.of0 E16 NoB) (fun _ _ h => h) (NoK.no _)
 have hB5 := hB5.keep0 E16
 have hb := hb.step0 E16
 refine from_still (m := 8) 8 (hd := [_, _, _, _, _, _, _, _]) (by kernel_rfl) rfl rfl ?_
 refine st_step rfl (fun _ h9 => op_move (ev_base hN rfl s0) h9) ?_
 refine st_step rfl (fun _ h9 => op_nil (ev_hit hN rfl) h9) ?_
 refine st_step rfl (fun _ h9 => op_field fld93_2 (ev_hit hN rfl) h9) ?_
 refine st_step rfl (fun _ h9 => op_load1 (v := cv) one91 (ev_hit hN rfl) (hx.cell rfl) h9) ?_
 refine st_step rfl (fun _ h9 => op_move (ev_hit hN rfl) h9) ?_
 refine st_index_rd slt91 (ev_hit hN rfl) oc.rdw (ev_hit hN rfl) (by omega) (by omega) ?_
 intro b18 o19 h0b18 h1b18 hc20
 refine st_step rfl (fun _ h9 => op_load1 (v := (ptr (P.getD ((way (K.map Prod.snd) k)) default) 0)) one86 (ev_hit hN rfl) (by have := hc20 0 (ptr (P.getD ((way (K.map Prod.snd) k)) default) 0) (by decide) (el_pn (i := ((way (K.map Prod.snd) k))) (by omega) (by first | omega | (simp only [List.length_drop, List.length_take]; omega))); simpa using this) h9) ?_
 refine st_step rfl (fun _ h9 => op_loadA (cs := [yv, (Value.string (bs x))]) agg98 rfl (ev_hit hN rfl) (fun j u hu => by rw [Nat.zero_add]; exact hB5.cell hu) h9) ?_
 refine st_nil ?_
 refine from_one (k' := 9) (by kernel_rfl) rfl rfl ?_
 rcases Bool.eq_false_or_eq_true (((putT h k x c).2.2.isSome)) with k55 | k55
 · -- 55T
  refine op_fn (vs := [(ptr (P.getD ((way (K.map Prod.snd) k)) default) 0), (Value.agg #[yv, (Value.string (bs x))])]) ok40 ⟨(ev_hit hN rfl), ⟨(ev_hit hN rfl), trivial⟩⟩ (IH hkid hcO (by have := (hz c (List.mem_of_getElem? hc)).2; omega) hk hkr) ?_
  rintro _ w22 ⟨E23, u21, m21, rfl, ho21⟩
  have bd24 := hx.lt
  have bd25 := ok.lt
  have bd26 := oc.lt
  have bd27 := hk.lt
  have bd28 := hrest.lt
  have bd29 := hB5.lt
  obtain ⟨y21, t2_21, q21, W1_21, W2_21, hr21, rfl, hu21, hur21, hT21, hT2_21, hN1_21, hN2_21, hd21⟩ := outR_some k55 ho21
  have hkid_old := hkid
  have z_w22 := E23.size
  have hx := hx.keepG E23 djpf
  have ok := ok.keepG E23 djkf
  have oc := oc.keepG E23 djcf
  have ks : ∀ x9 ∈ K, Own w22 0 5 1 x9.1 x9.2.length (x9.2.map u8v) := fun x9 hx9 => (ks x9 hx9).keepG E23 (hkid_old.notOwn (ks x9 hx9) (by decide) (by decide) (by decide) (by decide))
  have hk := hk.keepG E23 (hkid_old.notOwn hk (by decide) (by decide) (by decide) (by decide))
  have hrest := hrest.keepG E23 hfG.symm (hkid_old.noK kS_fine)
  have hB5 := hB5.keepG E23 dj6
  have hb := hb.stepF E23 (fun k _ h => hNd.wg k (hfs k h))
  have dj30 : ¬ W1_21 p := ne_stepF hN1_21 bd24 djpf
  have dj31 : Dj (Bl kv) W1_21 := Dj.stepF hN1_21 (fun k hk => (bd25 k hk).2) djkf
  have dj32 : Dj (Bl cv) W1_21 := Dj.stepF hN1_21 (fun k hk => (bd26 k hk).2) djcf
  have dj34 : Dj G0 W1_21 := Dj.stepF hN1_21 (fun k hk => (bd28 k hk).2) hfG.symm
  have dj36 : ¬ W2_21 p := ne_stepF hN2_21 bd24 djpf
  have dj37 : Dj (Bl kv) W2_21 := Dj.stepF hN2_21 (fun k hk => (bd25 k hk).2) djkf
  have dj38 : Dj (Bl cv) W2_21 := Dj.stepF hN2_21 (fun k hk => (bd26 k hk).2) djcf
  have dj40 : Dj G0 W2_21 := Dj.stepF hN2_21 (fun k hk => (bd28 k hk).2) hfG.symm
  have hin42 := in_newF (hN1_21.mono (t := w.heap.size) (by omega)) (fun k hk => hNd.wg k (hfs k hk))
  have hin43 := in_newF (hN2_21.mono (t := w.heap.size) (by omega)) (fun k hk => hNd.wg k (hfs k hk))
  refine from_next ?_
  refine from_still (m := 16) 7 (hd := [_, _, _, _, _, _, _]) (by kernel_rfl) rfl rfl ?_
  refine st_step rfl (fun _ h9 => op_move (ev_hit hN rfl) h9) ?_
  refine st_step rfl (fun _ h9 => op_extract (ev_hit hN rfl) rfl h9) ?_
  refine st_step rfl (fun _ h9 => op_extract (ev_hit hN rfl) rfl h9) ?_
  refine st_step rfl (fun _ h9 => op_extract (ev_hit hN rfl) rfl h9) ?_
  refine st_step rfl (fun _ h9 => op_assign (ev_hit hN rfl) h9) ?_
  refine st_step rfl (fun _ h9 => op_assign (ev_hit hN rfl) h9) ?_
  refine st_step rfl (fun _ h9 => op_assign (ev_hit hN rfl) h9) ?_
  refine st_nil ?_
  refine from_end ?_ rfl
  refine hK15 _ _ (join_at hK8 (N := 92) (fun az_ w' => ∃ (vk vc : Value), (az_.tmps.getD 0 undef = (ptr p 0)) ∧ (az_.tmps.getD 4 undef = (Value.bool (putT h k x c).1)) ∧ (az_.tmps.getD 5 undef = (Value.slice none 0 0)) ∧ (az_.tmps.getD 6 undef = (Value.pointer none)) ∧ (Dj (Bl vk) G0) ∧ (Dj (Bl vk) W1_21) ∧ (Dj (Bl vk) W2_21) ∧ (∀ j, j < w.heap.size → Bl vk j → W j) ∧ (Dj (Bl vc) G0) ∧ (Dj (Bl vc) W1_21) ∧ (Dj (Bl vc) W2_21) ∧ (∀ j, j < w.heap.size → Bl vc j → W j) ∧ (Gr w w' W) ∧ (w22.heap.size ≤ w'.heap.size) ∧ (∀ x9 ∈ K, Own w' 0 5 1 x9.1 x9.2.length (x9.2.map u8v)) ∧ (Own w' 0 5 1 yv k.length (k.map u8v)) ∧ (KidsR kS R w' h (P.eraseIdx (way (K.map Prod.snd) k)) (cs.eraseIdx (way (K.map Prod.snd) k)) G0) ∧ (Bx w' b3 98 [yv, (Value.string (bs x))]) ∧ (TreeR kS R w' h (P.getD (way (K.map Prod.snd) k) default) (putT h k x c).2.1 W1_21) ∧ (TreeR kS R w' h q21 t2_21 W2_21) ∧ (Own w' 0 5 1 u21 y21.length (y21.map u8v)) ∧ (Own w' 0 27 1 vk (K.insertIdx (way (K.map Prod.snd) k) (u21, y21)).length ((K.insertIdx (way (K.map Prod.snd) k) (u21, y21)).flatMap cK)) ∧ (Own w' 0 86 1 vc (P.insertIdx ((way (K.map Prod.snd) k) + 1) q21).length ((P.insertIdx ((way (K.map Prod.snd) k) + 1) q21).flatMap cN)) ∧ (Bx w' p 93 [(Value.slice none 0 0), vk, vc])) (fun hJ53 => ?_) ?_)
  ·
   refine seq_any fun K56 hK56 => one_reg (op_move (ev_hit hN rfl) (op_pne_some ptrt86 (ev_hit hN rfl) rfl ?_))
   refine reg_nil (hK56 _ _ (wp_cond_true (ev_hit hN rfl) ?_))
   refine reg_split (hd := [_, _, _, _, _, _, _, _, _, _, _, _, _, _, _, _, _, _, _, _, _, _]) (tl := _) 22 mixed (by kernel_rfl) rfl rfl ?_
   refine any_treek (φ := phiV [(fun uz => uz = (ptr p 0)), (fun uz => uz = (ptr p 0)), (fun uz => uz = (ptr p 0)), (fun uz => uz = (ptr p 0)), (fun uz => uz = (ptr p 1)), (fun uz => uz = kv), (fun uz => uz = (Value.int .i64 (((way (K.map Prod.snd) k) : Nat) : Int))), (fun uz => uz = u21), (fun _ => True), (fun _ => True), (fun uz => uz = (ptr p 0)), (fun uz => uz = (ptr p 0)), (fun uz => uz = (ptr p 2)), (fun uz => uz = cv), (fun uz => uz = (Value.int .i64 (((way (K.map Prod.snd) k) : Nat) : Int))), (fun uz => uz = (Value.int .i64 ((((way (K.map Prod.snd) k) : Nat) : Int) + 1))), (fun uz => uz = (ptr q21 0)), (fun _ => True), (fun _ => True), (fun uz => uz = (ptr p 0)), (fun uz => uz = (ptr p 1)), (fun _ => True)]) (G := fun t9 w' => 21 ∈ t9 → (Bx w' p 93 [(Value.slice none 0 0), kv, cv])) [8, 9, 17, 18, 21] (by kernel_rfl) (by kernel_rfl) (by kernel_rfl) (by kernel_rfl) (by kernel_rfl) hN (fun _ w1 w2 E h hc9 => (h hc9).keep0 E) (fun _ => hx) (ObRk9.cons ?_ (ObRk9.cons ?_ (ObRk9.cons ?_ (ObRk9.cons ?_ (ObRk9.cons ?_ (ObRk9.cons ?_ (ObRk9.cons ?_ (ObRk9.cons ?_ (ObRk9.pass rfl (ObRk9.pass rfl (ObRk9.cons ?_ (ObRk9.cons ?_ (ObRk9.cons ?_ (ObRk9.cons ?_ (ObRk9.cons ?_ (ObRk9.cons ?_ (ObRk9.cons ?_ (ObRk9.pass rfl (ObRk9.pass rfl (ObRk9.cons ?_ (ObRk9.cons ?_ (ObRk9.pass rfl (ObRk9.nil))))))))))))))))))))))) (by simp only [putsL_defers]) ?_
   ·
    intro eA tA aA wA hNA hckA hGA hbsA hdpA
    have qA_0 := (hbsA 0 rfl).trans (sl_base hN rfl s0)
    refine op_move (ev_base hNA rfl qA_0) ?_
    exact obTk_end rfl rfl
   ·
    intro eA tA aA wA hNA hckA hGA hbsA hdpA
    have qA_0 := (hbsA 0 rfl).trans (sl_base hN rfl s0)
    refine op_move (ev_base hNA rfl qA_0) ?_
    exact obTk_end rfl rfl
   ·
    intro eA tA aA wA hNA hckA hGA hbsA hdpA
    have qA_0 := (hbsA 0 rfl).trans (sl_base hN rfl s0)
    refine op_move (ev_base hNA rfl qA_0) ?_
    exact obTk_end rfl rfl
   ·
    intro eA tA aA wA hNA hckA hGA hbsA hdpA
    have qA_63 : Sl aA 63 (ptr p 0) := (hdpA 2 _ 63 (by kernel_rfl) rfl rfl).2 rfl
    refine op_nil (ev_base hNA rfl qA_63) ?_
    exact obTk_end rfl rfl
   ·
    intro eA tA aA wA hNA hckA hGA hbsA hdpA
    have qA_64 : Sl aA 64 (ptr p 0) := (hdpA 3 _ 64 (by kernel_rfl) rfl rfl).2 rfl
    refine op_field fld93_1 (ev_base hNA rfl qA_64) ?_
    exact obTk_end rfl rfl
   ·
    intro eA tA aA wA hNA hckA hGA hbsA hdpA
    have qA_65 : Sl aA 65 (ptr p 1) := (hdpA 4 _ 65 (by kernel_rfl) rfl rfl).2 rfl
    have hGA := hGA (hckA 21 rfl (by kernel_rfl))
    refine op_load1 (v := kv) one90 (ev_base hNA rfl qA_65) (hGA.cell rfl) ?_
    exact obTk_end rfl rfl
   ·
    intro eA tA aA wA hNA hckA hGA hbsA hdpA
    have qA_9 := (hbsA 9 rfl).trans (sl_hit hN rfl)
    refine op_move (ev_base hNA rfl qA_9) ?_
    exact obTk_end rfl rfl
   ·
    intro eA tA aA wA hNA hckA hGA hbsA hdpA
    have qA_10 := (hbsA 10 rfl).trans (sl_hit hN rfl)
    refine op_move (ev_base hNA rfl qA_10) ?_
    exact obTk_end rfl rfl
   ·
    intro eA tA aA wA hNA hckA hGA hbsA hdpA
    have qA_0 := (hbsA 0 rfl).trans (sl_base hN rfl s0)
    refine op_move (ev_base hNA rfl qA_0) ?_
    exact obTk_end rfl rfl
   ·
    intro eA tA aA wA hNA hckA hGA hbsA hdpA
    have qA_71 : Sl aA 71 (ptr p 0) := (hdpA 10 _ 71 (by kernel_rfl) rfl rfl).2 rfl
    refine op_nil (ev_base hNA rfl qA_71) ?_
    exact obTk_end rfl rfl
   ·
    intro eA tA aA wA hNA hckA hGA hbsA hdpA
    have qA_72 : Sl aA 72 (ptr p 0) := (hdpA 11 _ 72 (by kernel_rfl) rfl rfl).2 rfl
    refine op_field fld93_2 (ev_base hNA rfl qA_72) ?_
    exact obTk_end rfl rfl
   ·
    intro eA tA aA wA hNA hckA hGA hbsA hdpA
    have qA_73 : Sl aA 73 (ptr p 2) := (hdpA 12 _ 73 (by kernel_rfl) rfl rfl).2 rfl
    have hGA := hGA (hckA 21 rfl (by kernel_rfl))
    refine op_load1 (v := cv) one91 (ev_base hNA rfl qA_73) (hGA.cell rfl) ?_
    exact obTk_end rfl rfl
   ·
    intro eA tA aA wA hNA hckA hGA hbsA hdpA
    have qA_9 := (hbsA 9 rfl).trans (sl_hit hN rfl)
    refine op_move (ev_base hNA rfl qA_9) ?_
    exact obTk_end rfl rfl
   ·
    intro eA tA aA wA hNA hckA hGA hbsA hdpA
    have qA_75 : Sl aA 75 (Value.int .i64 (((way (K.map Prod.snd) k) : Nat) : Int)) := (hdpA 14 _ 75 (by kernel_rfl) rfl rfl).2 rfl
    refine op_add (ev_base hNA rfl qA_75) rfl (add64 (by omega)) ?_
    exact obTk_end rfl rfl
   ·
    intro eA tA aA wA hNA hckA hGA hbsA hdpA
    have qA_11 := (hbsA 11 rfl).trans (sl_hit hN rfl)
    refine op_move (ev_base hNA rfl qA_11) ?_
    exact obTk_end rfl rfl
   ·
    intro eA tA aA wA hNA hckA hGA hbsA hdpA
    have qA_61 : Sl aA 61 (ptr p 0) := (hdpA 0 _ 61 (by kernel_rfl) rfl rfl).2 rfl
    refine op_nil (ev_base hNA rfl qA_61) ?_
    exact obTk_end rfl rfl
   ·
    intro eA tA aA wA hNA hckA hGA hbsA hdpA
    have qA_80 : Sl aA 80 (ptr p 0) := (hdpA 19 _ 80 (by kernel_rfl) rfl rfl).2 rfl
    refine op_field fld93_1 (ev_base hNA rfl qA_80) ?_
    exact obTk_end rfl rfl
   ·
    refine ktk_step (rs := [8, 17]) (by kernel_rfl) ?_
    refine more_mem ?_ ?_
    · -- first 8
     intro w58 E58 _ a58 hN58 hbs58 hdp58 o_ ho_; obtain rfl := Option.some.inj ho_
     have z_w58 := E58.size
     have hx := hx.keep0 E58
     have ok := ok.keep0 E58
     have oc := oc.keep0 E58
     have ks := all9 ks fun _ h => h.keep0 E58
     have hk := hk.keep0 E58
     have hrest := hrest.keepG (Gr.of0 E58 NoB) (fun _ _ h => h) (NoK.no _)
     have hB5 := hB5.keep0 E58
     have hT21 := hT21.keepG (Gr.of0 E58 NoB) (fun _ _ h => h) (NoK.no _)
     have hT2_21 := hT2_21.keepG (Gr.of0 E58 NoB) (fun _ _ h => h) (NoK.no _)
     have hu21 := hu21.keep0 E58
     have hb := hb.step0 E58
     have q58_68 : Sl a58 68 u21 := (hdp58 7 _ 68 (by kernel_rfl) rfl rfl).2 rfl
     refine op_bslice (e := 27) (pv := [(0, u21)]) (cs := [u21]) ⟨rfl, (ev_base hN58 rfl q58_68), trivial⟩ (by obtain ⟨_, _, _, rfl⟩ := hu21.sl; kernel_rfl) ?_
     intro w59 b60 lo_b60 hi_b60 hB62 E61
     have ne_b60_kv : kv.ownBlock ≠ some b60 := fun hh => by have := (ok.lt _ hh).2; omega
     have z_w59 := E61.size
     have hx := hx.keep0 E61
     have ok := ok.keep0 E61
     have oc := oc.keep0 E61
     have ks := all9 ks fun _ h => h.keep0 E61
     have hk := hk.keep0 E61
     have hrest := hrest.keepG (Gr.of0 E61 NoB) (fun _ _ h => h) (NoK.no _)
     have hB5 := hB5.keep0 E61
     have hT21 := hT21.keepG (Gr.of0 E61 NoB) (fun _ _ h => h) (NoK.no _)
     have hT2_21 := hT2_21.keepG (Gr.of0 E61 NoB) (fun _ _ h => h) (NoK.no _)
     have hu21 := hu21.keep0 E61
     have hb := hb.step0 E61
     refine ktk_end (G := fun t9 w' => 21 ∈ t9 → (Bx w' p 93 [(Value.slice none 0 0), kv, cv])) (todo := [8, 9, 17, 18, 21]) (i := 8) rfl (fun _ => hx) ?_
     refine ktk_step (rs := [9, 17]) (by kernel_rfl) ?_
     refine more_mem ?_ ?_
     · -- first 9
      intro w67 E67 _ a67 hN67 hbs67 hdp67 o_ ho_; obtain rfl := Option.some.inj ho_
      have z_w67 := E67.size
      have hx := hx.keep0 E67
      have ok := ok.keep0 E67
      have oc := oc.keep0 E67
      have ks := all9 ks fun _ h => h.keep0 E67
      have hk := hk.keep0 E67
      have hrest := hrest.keepG (Gr.of0 E67 NoB) (fun _ _ h => h) (NoK.no _)
      have hB5 := hB5.keep0 E67
      have hT21 := hT21.keepG (Gr.of0 E67 NoB) (fun _ _ h => h) (NoK.no _)
      have hT2_21 := hT2_21.keepG (Gr.of0 E67 NoB) (fun _ _ h => h) (NoK.no _)
      have hu21 := hu21.keep0 E67
      have hB62 := hB62.keep0 E67
      have hb := hb.step0 E67
      have q67_66 : Sl a67 66 kv := (hdp67 5 _ 66 (by kernel_rfl) rfl rfl).2 rfl
      have q67_67 : Sl a67 67 (Value.int .i64 (((way (K.map Prod.snd) k) : Nat) : Int)) := (hdp67 6 _ 67 (by kernel_rfl) rfl rfl).2 rfl
      have q67_69 : Sl a67 69 (Value.slice (some ⟨b60, 0, none⟩) 1 1) := (Option.some.inj ((hdp67 8 _ 69 (by kernel_rfl) rfl rfl).1 rfl)).symm
      refine op_fn (vs := [kv, (Value.int .i64 (((way (K.map Prod.snd) k) : Nat) : Int)), (Value.slice (some ⟨b60, 0, none⟩) 1 1)]) ok67 ⟨(ev_base hN67 rfl q67_66), ⟨(ev_base hN67 rfl q67_67), ⟨(ev_base hN67 rfl q67_69), trivial⟩⟩⟩ (InsK ok hB62 (one_kd ks (fun _ h => h)) (by simp only [List.all_cons, List.all_nil, Bool.true_and, Bool.and_true, hu21.one]; try rfl) (by first | omega | (simp only [List.length_insertIdx, List.length_set, List.length_drop, List.length_take]; omega) | (simp; omega)) (by first | omega | (simp only [List.length_insertIdx, List.length_set, List.length_drop, List.length_take]; omega) | (simp; omega)) ne_b60_kv) ?_
      rintro v68 w69 ⟨E70, hO68, hm68⟩
      have dj71 : Dj G0 (Bl v68) := Dj.step hm68 (fun k hk => (hrest.lt k hk).2) djkG.symm
      have dj72 : Dj W1_21 (Bl v68) := Dj.step hm68 (fun k hk => (hT21.lt k hk).2) dj31.symm
      have dj73 : Dj W2_21 (Bl v68) := Dj.step hm68 (fun k hk => (hT2_21.lt k hk).2) dj37.symm
      have hin74 := inF_step (n := w.heap.size) hm68 (by omega) (fun k _ h => hNd.wk k h)
      have z_w69 := E70.size
      have hx := hx.keepO ok E70 (by decide)
      have oc := oc.keepT ok E70 (by decide)
      have ks := all9 ks fun _ h => h.keepT ok E70 (by decide)
      have hk := hk.keepT ok E70 (by decide)
      have hrest := hrest.keepG (Gr.of E70) djkG.symm (NoK.ofOwn ok (by decide))
      have hB5 := hB5.keepO ok E70 (by decide)
      have hT21 := hT21.keepG (Gr.of E70) dj31.symm (NoK.ofOwn ok (by decide))
      have hT2_21 := hT2_21.keepG (Gr.of E70) dj37.symm (NoK.ofOwn ok (by decide))
      have hu21 := hu21.keepT ok E70 (by decide)
      have hb := hb.stepL E70 (fun k _ h => hNd.wk k h)
      have hO68 : Own w69 0 27 1 v68 (K.insertIdx (way (K.map Prod.snd) k) (u21, y21)).length ((K.insertIdx (way (K.map Prod.snd) k) (u21, y21)).flatMap cK) := hO68.cast (by rw [List.length_insertIdx, if_pos (by first | omega | (simp only [List.length_insertIdx, List.length_set, List.length_drop, List.length_take]; omega) | (simp; omega))]) (flat_ins cK_len (u21, y21) (by first | omega | (simp only [List.length_insertIdx, List.length_set, List.length_drop, List.length_take]; omega) | (simp; omega)))
      refine ktk_end (G := fun t9 w' => 21 ∈ t9 → (Bx w' p 93 [(Value.slice none 0 0), kv, cv])) (todo := [9, 17, 18, 21]) (i := 9) rfl (fun _ => hx) ?_
      refine ktk_step (rs := [17]) (by kernel_rfl) ?_
      refine one_mem ?_
      intro w76 E76 _ a76 hN76 hbs76 hdp76 o_ ho_; obtain rfl := Option.some.inj ho_
      have z_w76 := E76.size
      have hx := hx.keep0 E76
      have oc := oc.keep0 E76
      have ks := all9 ks fun _ h => h.keep0 E76
      have hk := hk.keep0 E76
      have hrest := hrest.keepG (Gr.of0 E76 NoB) (fun _ _ h => h) (NoK.no _)
      have hB5 := hB5.keep0 E76
      have hT21 := hT21.keepG (Gr.of0 E76 NoB) (fun _ _ h => h) (NoK.no _)
      have hT2_21 := hT2_21.keepG (Gr.of0 E76 NoB) (fun _ _ h => h) (NoK.no _)
      have hu21 := hu21.keep0 E76
      have hO68 := hO68.keep0 E76
      have hb := hb.step0 E76
      have q76_77 : Sl a76 77 (ptr q21 0) := (hdp76 16 _ 77 (by kernel_rfl) rfl rfl).2 rfl
      refine op_bslice (e := 86) (pv := [(0, (ptr q21 0))]) (cs := [(ptr q21 0)]) ⟨rfl, (ev_base hN76 rfl q76_77), trivial⟩ (by kernel_rfl) ?_
      intro w77 b78 lo_b78 hi_b78 hB80 E79
      have ne_b78_cv : cv.ownBlock ≠ some b78 := fun hh => by have := (oc.lt _ hh).2; omega
      have z_w77 := E79.size
      have hx := hx.keep0 E79
      have oc := oc.keep0 E79
      have ks := all9 ks fun _ h => h.keep0 E79
      have hk := hk.keep0 E79
      have hrest := hrest.keepG (Gr.of0 E79 NoB) (fun _ _ h => h) (NoK.no _)
      have hB5 := hB5.keep0 E79
      have hT21 := hT21.keepG (Gr.of0 E79 NoB) (fun _ _ h => h) (NoK.no _)
      have hT2_21 := hT2_21.keepG (Gr.of0 E79 NoB) (fun _ _ h => h) (NoK.no _)
      have hu21 := hu21.keep0 E79
      have hO68 := hO68.keep0 E79
      have hb := hb.step0 E79
      refine ktk_end (G := fun t9 w' => 21 ∈ t9 → (Bx w' p 93 [(Value.slice none 0 0), kv, cv])) (todo := [17, 18, 21]) (i := 17) rfl (fun _ => hx) ?_
      refine ktk_step (rs := [18]) (by kernel_rfl) ?_
      refine one_mem ?_
      intro w85 E85 _ a85 hN85 hbs85 hdp85 o_ ho_; obtain rfl := Option.some.inj ho_
      have z_w85 := E85.size
      have hx := hx.keep0 E85
      have oc := oc.keep0 E85
      have ks := all9 ks fun _ h => h.keep0 E85
      have hk := hk.keep0 E85
      have hrest := hrest.keepG (Gr.of0 E85 NoB) (fun _ _ h => h) (NoK.no _)
      have hB5 := hB5.keep0 E85
      have hT21 := hT21.keepG (Gr.of0 E85 NoB) (fun _ _ h => h) (NoK.no _)
      have hT2_21 := hT2_21.keepG (Gr.of0 E85 NoB) (fun _ _ h => h) (NoK.no _)
      have hu21 := hu21.keep0 E85
      have hO68 := hO68.keep0 E85
      have hB80 := hB80.keep0 E85
      have hb := hb.step0 E85
      have q85_74 : Sl a85 74 cv := (hdp85 13 _ 74 (by kernel_rfl) rfl rfl).2 rfl
      have q85_76 : Sl a85 76 (Value.int .i64 ((((way (K.map Prod.snd) k) : Nat) : Int) + 1)) := (hdp85 15 _ 76 (by kernel_rfl) rfl rfl).2 rfl
      have q85_78 : Sl a85 78 (Value.slice (some ⟨b78, 0, none⟩) 1 1) := (Option.some.inj ((hdp85 17 _ 78 (by kernel_rfl) rfl rfl).1 rfl)).symm
      refine op_fn (vs := [cv, (Value.int .i64 ((((way (K.map Prod.snd) k) : Nat) : Int) + 1)), (Value.slice (some ⟨b78, 0, none⟩) 1 1)]) ok68 ⟨(ev_base hN85 rfl q85_74), ⟨(ev_base hN85 rfl q85_76), ⟨(ev_base hN85 rfl q85_78), trivial⟩⟩⟩ (InsNS oc hB80 (one_pn _) rfl (by first | omega | (simp only [List.length_insertIdx, List.length_set, List.length_drop, List.length_take]; omega) | (simp; omega)) (by first | omega | (simp only [List.length_insertIdx, List.length_set, List.length_drop, List.length_take]; omega) | (simp; omega)) ne_b78_cv) ?_
      rintro v86 w87 ⟨E88, hO86, hm86⟩
      have dj89 : Dj G0 (Bl v86) := Dj.step hm86 (fun k hk => (hrest.lt k hk).2) djcG.symm
      have dj90 : Dj W1_21 (Bl v86) := Dj.step hm86 (fun k hk => (hT21.lt k hk).2) dj32.symm
      have dj91 : Dj W2_21 (Bl v86) := Dj.step hm86 (fun k hk => (hT2_21.lt k hk).2) dj38.symm
      have hin92 := inF_step (n := w.heap.size) hm86 (by omega) (fun k _ h => hNd.wc k h)
      have z_w87 := E88.size
      have hx := hx.keepO oc E88 (by decide)
      have ks := all9 ks fun _ h => h.keepT oc E88 (by decide)
      have hk := hk.keepT oc E88 (by decide)
      have hrest := hrest.keepG (Gr.of E88) djcG.symm (NoK.ofOwn oc (by decide))
      have hB5 := hB5.keepO oc E88 (by decide)
      have hT21 := hT21.keepG (Gr.of E88) dj32.symm (NoK.ofOwn oc (by decide))
      have hT2_21 := hT2_21.keepG (Gr.of E88) dj38.symm (NoK.ofOwn oc (by decide))
      have hu21 := hu21.keepT oc E88 (by decide)
      have hO68 := hO68.keepT oc E88 (by decide)
      have hb := hb.stepL E88 (fun k _ h => hNd.wc k h)
      have hO86 : Own w87 0 86 1 v86 (P.insertIdx (((way (K.map Prod.snd) k)) + 1) q21).length ((P.insertIdx (((way (K.map Prod.snd) k)) + 1) q21).flatMap cN) := hO86.cast (by rw [List.length_insertIdx, if_pos (by first | omega | (simp only [List.length_insertIdx, List.length_set, List.length_drop, List.length_take]; omega) | (simp; omega))]) (flat_ins cN_len q21 (by first | omega | (simp only [List.length_insertIdx, List.length_set, List.length_drop, List.length_take]; omega) | (simp; omega)))
      refine ktk_end (G := fun t9 w' => 21 ∈ t9 → (Bx w' p 93 [(Value.slice none 0 0), kv, cv])) (todo := [18, 21]) (i := 18) rfl (fun _ => hx) ?_
      refine ktk_step (rs := [21]) (by kernel_rfl) ?_
      refine one_mem ?_
      intro w94 E94 _ a94 hN94 hbs94 hdp94 o_ ho_; obtain rfl := Option.some.inj ho_
      have z_w94 := E94.size
      have hx := hx.keep0 E94
      have ks := all9 ks fun _ h => h.keep0 E94
      have hk := hk.keep0 E94
      have hrest := hrest.keepG (Gr.of0 E94 NoB) (fun _ _ h => h) (NoK.no _)
      have hB5 := hB5.keep0 E94
      have hT21 := hT21.keepG (Gr.of0 E94 NoB) (fun _ _ h => h) (NoK.no _)
      have hT2_21 := hT2_21.keepG (Gr.of0 E94 NoB) (fun _ _ h => h) (NoK.no _)
      have hu21 := hu21.keep0 E94
      have hO68 := hO68.keep0 E94
      have hO86 := hO86.keep0 E94
      have hb := hb.step0 E94
      have q94_81 : Sl a94 81 (ptr p 1) := (hdp94 20 _ 81 (by kernel_rfl) rfl rfl).2 rfl
      have q94_70 : Sl a94 70 v68 := (Option.some.inj ((hdp94 9 _ 70 (by kernel_rfl) rfl rfl).1 rfl)).symm
      have hx_old := hx
      refine op_store (vs := [v68]) (cs' := [(Value.slice none 0 0), v68, cv]) size90 (ev_base hN94 rfl q94_81) (ev_base hN94 rfl q94_70) hO68.cl rfl (by simp only [List.all_cons, List.all_nil, Bool.true_and, Bool.and_true, hO68.one]; try rfl) hx (Nat.le_of_ble_eq_true rfl) rfl ?_
      intro w97 hx E98
      have z_w97 := E98.size
      have ks := all9 ks fun _ h => h.keepX hx_old E98 (by decide)
      have hk := hk.keepX hx_old E98 (by decide)
      have hrest := hrest.keepG (Gr.of E98) (Dj.one djpG) (NoK.ofBx hx_old (by decide))
      have hB5 := hB5.keep E98 (fun hh => hB5.ne hx_old (by decide) (Option.some.inj hh))
      have hT21 := hT21.keepG (Gr.of E98) (Dj.one dj30) (NoK.ofBx hx_old (by decide))
      have hT2_21 := hT2_21.keepG (Gr.of E98) (Dj.one dj36) (NoK.ofBx hx_old (by decide))
      have hu21 := hu21.keepX hx_old E98 (by decide)
      have hO68 := hO68.keepX hx_old E98 (by decide)
      have hO86 := hO86.keepX hx_old E98 (by decide)
      have hb := hb.stepB E98 hNd.wp
      refine ktk_end0 (G := fun t9 w' => 21 ∈ t9 → (Bx w' p 93 [(Value.slice none 0 0), kv, cv])) (todo := [21]) (i := 21) rfl (fun h => absurd h (by decide)) ?_
      intro w99 E99 a99 hN99 hd99 hbs99 hph99
      have hd99 := hd99.trans ((by simp only [putsL_defers] : _ = _).trans hd)
      have z_w99 := E99.size
      have ks := all9 ks fun _ h => h.keep0 E99
      have hk := hk.keep0 E99
      have hrest := hrest.keepG (Gr.of0 E99 NoB) (fun _ _ h => h) (NoK.no _)
      have hB5 := hB5.keep0 E99
      have hT21 := hT21.keepG (Gr.of0 E99 NoB) (fun _ _ h => h) (NoK.no _)
      have hT2_21 := hT2_21.keepG (Gr.of0 E99 NoB) (fun _ _ h => h) (NoK.no _)
      have hu21 := hu21.keep0 E99
      have hO68 := hO68.keep0 E99
      have hO86 := hO86.keep0 E99
      have hx := hx.keep0 E99
      have hb := hb.step0 E99
      have s99_0 := (hbs99 0 rfl).trans (sl_base hN rfl s0)
      have s99_4 := (hbs99 4 rfl).trans (sl_hit hN rfl)
      have s99_5 := (hbs99 5 rfl).trans (sl_hit hN rfl)
      have s99_6 := (hbs99 6 rfl).trans (sl_hit hN rfl)
      have s99_62 : Sl a99 62 (ptr p 0) := (hph99 1 _ 62 rfl rfl).2 rfl
      have s99_79 : Sl a99 79 v86 := (Option.some.inj ((hph99 18 _ 79 rfl rfl).1 rfl)).symm
      refine split_end ?_
      refine from_seq (tl := [_, _, _]) (by decide) (by kernel_rfl) rfl ?_
      refine op_nil (ev_base hN99 rfl s99_62) (op_field fld93_2 (ev_hit hN99 rfl) ?_)
      have hx_old := hx
      refine op_store (vs := [v86]) (cs' := [(Value.slice none 0 0), v68, v86]) size91 (ev_hit hN99 rfl) (ev_base hN99 rfl s99_79) hO86.cl rfl (by simp only [List.all_cons, List.all_nil, Bool.true_and, Bool.and_true, hO86.one]; try rfl) hx (Nat.le_of_ble_eq_true rfl) rfl ?_
      intro w102 hx E103
      have z_w102 := E103.size
      have ks := all9 ks fun _ h => h.keepX hx_old E103 (by decide)
      have hk := hk.keepX hx_old E103 (by decide)
      have hrest := hrest.keepG (Gr.of E103) (Dj.one djpG) (NoK.ofBx hx_old (by decide))
      have hB5 := hB5.keep E103 (fun hh => hB5.ne hx_old (by decide) (Option.some.inj hh))
      have hT21 := hT21.keepG (Gr.of E103) (Dj.one dj30) (NoK.ofBx hx_old (by decide))
      have hT2_21 := hT2_21.keepG (Gr.of E103) (Dj.one dj36) (NoK.ofBx hx_old (by decide))
      have hu21 := hu21.keepX hx_old E103 (by decide)
      have hO68 := hO68.keepX hx_old E103 (by decide)
      have hO86 := hO86.keepX hx_old E103 (by decide)
      have hb := hb.stepB E103 hNd.wp
      refine reg_nil (hK8 _ _ ?_)
      exact hJ53 _ _ _ hN99 hd99 ⟨v68, v86, (sl_base hN99 rfl s99_0), (sl_base hN99 rfl s99_4), (sl_base hN99 rfl s99_5), (sl_base hN99 rfl s99_6), dj71.symm, dj72.symm, dj73.symm, hin74, dj89.symm, dj90.symm, dj91.symm, hin92, hb, (by omega), ks, hk, hrest, hB5, hT21, hT2_21, hu21, (hO68.cast (n' := (K.insertIdx (way (K.map Prod.snd) k) (u21, y21)).length) (cs' := (K.insertIdx (way (K.map Prod.snd) k) (u21, y21)).flatMap cK) (by first | rfl | (simp; done) | (simp only [List.length_append, List.length_cons, List.length_nil]; omega)) (by first | rfl | simp [cK, cN, cI])), (hO86.cast (n' := (P.insertIdx ((way (K.map Prod.snd) k) + 1) q21).length) (cs' := (P.insertIdx ((way (K.map Prod.snd) k) + 1) q21).flatMap cN) (by first | rfl | (simp; done) | (simp only [List.length_append, List.length_cons, List.length_nil]; omega)) (by first | rfl | simp [cK, cN, cI])), hx⟩
     refine one_mem ?_
     intro w104 E104 _ a104 hN104 hbs104 hdp104 o_ ho_; obtain rfl := Option.some.inj ho_
     have z_w104 := E104.size
     have hx := hx.keep0 E104
     have ok := ok.keep0 E104
     have oc := oc.keep0 E104
     have ks := all9 ks fun _ h => h.keep0 E104
     have hk := hk.keep0 E104
     have hrest := hrest.keepG (Gr.of0 E104 NoB) (fun _ _ h => h) (NoK.no _)
     have hB5 := hB5.keep0 E104
     have hT21 := hT21.keepG (Gr.of0 E104 NoB) (fun _ _ h => h) (NoK.no _)
     have hT2_21 := hT2_21.keepG (Gr.of0 E104 NoB) (fun _ _ h => h) (NoK.no _)
     have hu21 := hu21.keep0 E104
     have hB62 := hB62.keep0 E104
     have hb := hb.step0 E104
     have q104_77 : Sl a104 77 (ptr q21 0) := (hdp104 16 _ 77 (by kernel_rfl) rfl rfl).2 rfl
     refine op_bslice (e := 86) (pv := [(0, (ptr q21 0))]) (cs := [(ptr q21 0)]) ⟨rfl, (ev_base hN104 rfl q104_77), trivial⟩ (by kernel_rfl) ?_
     intro w105 b106 lo_b106 hi_b106 hB108 E107
     have ne_b106_cv : cv.ownBlock ≠ some b106 := fun hh => by have := (oc.lt _ hh).2; omega
     have z_w105 := E107.size
     have hx := hx.keep0 E107
     have ok := ok.keep0 E107
     have oc := oc.keep0 E107
     have ks := all9 ks fun _ h => h.keep0 E107
     have hk := hk.keep0 E107
     have hrest := hrest.keepG (Gr.of0 E107 NoB) (fun _ _ h => h) (NoK.no _)
     have hB5 := hB5.keep0 E107
     have hT21 := hT21.keepG (Gr.of0 E107 NoB) (fun _ _ h => h) (NoK.no _)
     have hT2_21 := hT2_21.keepG (Gr.of0 E107 NoB) (fun _ _ h => h) (NoK.no _)
     have hu21 := hu21.keep0 E107
     have hB62 := hB62.keep0 E107
     have hb := hb.step0 E107
     refine ktk_end (G := fun t9 w' => 21 ∈ t9 → (Bx w' p 93 [(Value.slice none 0 0), kv, cv])) (todo := [9, 17, 18, 21]) (i := 17) rfl (fun _ => hx) ?_
     refine ktk_step (rs := [9]) (by kernel_rfl) ?_
     refine one_mem ?_
     intro w113 E113 _ a113 hN113 hbs113 hdp113 o_ ho_; obtain rfl := Option.some.inj ho_
     have z_w113 := E113.size
     have hx := hx.keep0 E113
     have ok := ok.keep0 E113
     have oc := oc.keep0 E113
     have ks := all9 ks fun _ h => h.keep0 E113
     have hk := hk.keep0 E113
     have hrest := hrest.keepG (Gr.of0 E113 NoB) (fun _ _ h => h) (NoK.no _)
     have hB5 := hB5.keep0 E113
     have hT21 := hT21.keepG (Gr.of0 E113 NoB) (fun _ _ h => h) (NoK.no _)
     have hT2_21 := hT2_21.keepG (Gr.of0 E113 NoB) (fun _ _ h => h) (NoK.no _)
     have hu21 := hu21.keep0 E113
     have hB62 := hB62.keep0 E113
     have hB108 := hB108.keep0 E113
     have hb := hb.step0 E113
     have q113_66 : Sl a113 66 kv := (hdp113 5 _ 66 (by kernel_rfl) rfl rfl).2 rfl
     have q113_67 : Sl a113 67 (Value.int .i64 (((way (K.map Prod.snd) k) : Nat) : Int)) := (hdp113 6 _ 67 (by kernel_rfl) rfl rfl).2 rfl
     have q113_69 : Sl a113 69 (Value.slice (some ⟨b60, 0, none⟩) 1 1) := (Option.some.inj ((hdp113 8 _ 69 (by kernel_rfl) rfl rfl).1 rfl)).symm
     refine op_fn (vs := [kv, (Value.int .i64 (((way (K.map Prod.snd) k) : Nat) : Int)), (Value.slice (some ⟨b60, 0, none⟩) 1 1)]) ok67 ⟨(ev_base hN113 rfl q113_66), ⟨(ev_base hN113 rfl q113_67), ⟨(ev_base hN113 rfl q113_69), trivial⟩⟩⟩ (InsK ok hB62 (one_kd ks (fun _ h => h)) (by simp only [List.all_cons, List.all_nil, Bool.true_and, Bool.and_true, hu21.one]; try rfl) (by first | omega | (simp only [List.length_insertIdx, List.length_set, List.length_drop, List.length_take]; omega) | (simp; omega)) (by first | omega | (simp only [List.length_insertIdx, List.length_set, List.length_drop, List.length_take]; omega) | (simp; omega)) ne_b60_kv) ?_
     rintro v114 w115 ⟨E116, hO114, hm114⟩
     have dj117 : Dj G0 (Bl v114) := Dj.step hm114 (fun k hk => (hrest.lt k hk).2) djkG.symm
     have dj118 : Dj W1_21 (Bl v114) := Dj.step hm114 (fun k hk => (hT21.lt k hk).2) dj31.symm
     have dj119 : Dj W2_21 (Bl v114) := Dj.step hm114 (fun k hk => (hT2_21.lt k hk).2) dj37.symm
     have hin120 := inF_step (n := w.heap.size) hm114 (by omega) (fun k _ h => hNd.wk k h)
     have z_w115 := E116.size
     have hx := hx.keepO ok E116 (by decide)
     have oc := oc.keepT ok E116 (by decide)
     have ks := all9 ks fun _ h => h.keepT ok E116 (by decide)
     have hk := hk.keepT ok E116 (by decide)
     have hrest := hrest.keepG (Gr.of E116) djkG.symm (NoK.ofOwn ok (by decide))
     have hB5 := hB5.keepO ok E116 (by decide)
     have hT21 := hT21.keepG (Gr.of E116) dj31.symm (NoK.ofOwn ok (by decide))
     have hT2_21 := hT2_21.keepG (Gr.of E116) dj37.symm (NoK.ofOwn ok (by decide))
     have hu21 := hu21.keepT ok E116 (by decide)
     have hB108 := hB108.keepO ok E116 (by decide)
     have hb := hb.stepL E116 (fun k _ h => hNd.wk k h)
     have hO114 : Own w115 0 27 1 v114 (K.insertIdx (way (K.map Prod.snd) k) (u21, y21)).length ((K.insertIdx (way (K.map Prod.snd) k) (u21, y21)).flatMap cK) := hO114.cast (by rw [List.length_insertIdx, if_pos (by first | omega | (simp only [List.length_insertIdx, List.length_set, List.length_drop, List.length_take]; omega) | (simp; omega))]) (flat_ins cK_len (u21, y21) (by first | omega | (simp only [List.length_insertIdx, List.length_set, List.length_drop, List.length_take]; omega) | (simp; omega)))
     refine ktk_end (G := fun t9 w' => 21 ∈ t9 → (Bx w' p 93 [(Value.slice none 0 0), kv, cv])) (todo := [9, 18, 21]) (i := 9) rfl (fun _ => hx) ?_
     refine ktk_step (rs := [18]) (by kernel_rfl) ?_
     refine one_mem ?_
     intro w122 E122 _ a122 hN122 hbs122 hdp122 o_ ho_; obtain rfl := Option.some.inj ho_
     have z_w122 := E122.size
     have hx := hx.keep0 E122
     have oc := oc.keep0 E122
     have ks := all9 ks fun _ h => h.keep0 E122
     have hk := hk.keep0 E122
     have hrest := hrest.keepG (Gr.of0 E122 NoB) (fun _ _ h => h) (NoK.no _)
     have hB5 := hB5.keep0 E122
     have hT21 := hT21.keepG (Gr.of0 E122 NoB) (fun _ _ h => h) (NoK.no _)
     have hT2_21 := hT2_21.keepG (Gr.of0 E122 NoB) (fun _ _ h => h) (NoK.no _)
     have hu21 := hu21.keep0 E122
     have hB108 := hB108.keep0 E122
     have hO114 := hO114.keep0 E122
     have hb := hb.step0 E122
     have q122_74 : Sl a122 74 cv := (hdp122 13 _ 74 (by kernel_rfl) rfl rfl).2 rfl
     have q122_76 : Sl a122 76 (Value.int .i64 ((((way (K.map Prod.snd) k) : Nat) : Int) + 1)) := (hdp122 15 _ 76 (by kernel_rfl) rfl rfl).2 rfl
     have q122_78 : Sl a122 78 (Value.slice (some ⟨b106, 0, none⟩) 1 1) := (Option.some.inj ((hdp122 17 _ 78 (by kernel_rfl) rfl rfl).1 rfl)).symm
     refine op_fn (vs := [cv, (Value.int .i64 ((((way (K.map Prod.snd) k) : Nat) : Int) + 1)), (Value.slice (some ⟨b106, 0, none⟩) 1 1)]) ok68 ⟨(ev_base hN122 rfl q122_74), ⟨(ev_base hN122 rfl q122_76), ⟨(ev_base hN122 rfl q122_78), trivial⟩⟩⟩ (InsNS oc hB108 (one_pn _) rfl (by first | omega | (simp only [List.length_insertIdx, List.length_set, List.length_drop, List.length_take]; omega) | (simp; omega)) (by first | omega | (simp only [List.length_insertIdx, List.length_set, List.length_drop, List.length_take]; omega) | (simp; omega)) ne_b106_cv) ?_
     rintro v123 w124 ⟨E125, hO123, hm123⟩
     have dj126 : Dj G0 (Bl v123) := Dj.step hm123 (fun k hk => (hrest.lt k hk).2) djcG.symm
     have dj127 : Dj W1_21 (Bl v123) := Dj.step hm123 (fun k hk => (hT21.lt k hk).2) dj32.symm
     have dj128 : Dj W2_21 (Bl v123) := Dj.step hm123 (fun k hk => (hT2_21.lt k hk).2) dj38.symm
     have hin129 := inF_step (n := w.heap.size) hm123 (by omega) (fun k _ h => hNd.wc k h)
     have z_w124 := E125.size
     have hx := hx.keepO oc E125 (by decide)
     have ks := all9 ks fun _ h => h.keepT oc E125 (by decide)
     have hk := hk.keepT oc E125 (by decide)
     have hrest := hrest.keepG (Gr.of E125) djcG.symm (NoK.ofOwn oc (by decide))
     have hB5 := hB5.keepO oc E125 (by decide)
     have hT21 := hT21.keepG (Gr.of E125) dj32.symm (NoK.ofOwn oc (by decide))
     have hT2_21 := hT2_21.keepG (Gr.of E125) dj38.symm (NoK.ofOwn oc (by decide))
     have hu21 := hu21.keepT oc E125 (by decide)
     have hO114 := hO114.keepT oc E125 (by decide)
     have hb := hb.stepL E125 (fun k _ h => hNd.wc k h)
     have hO123 : Own w124 0 86 1 v123 (P.insertIdx (((way (K.map Prod.snd) k)) + 1) q21).length ((P.insertIdx (((way (K.map Prod.snd) k)) + 1) q21).flatMap cN) := hO123.cast (by rw [List.length_insertIdx, if_pos (by first | omega | (simp only [List.length_insertIdx, List.length_set, List.length_drop, List.length_take]; omega) | (simp; omega))]) (flat_ins cN_len q21 (by first | omega | (simp only [List.length_insertIdx, List.length_set, List.length_drop, List.length_take]; omega) | (simp; omega)))
     refine ktk_end (G := fun t9 w' => 21 ∈ t9 → (Bx w' p 93 [(Value.slice none 0 0), kv, cv])) (todo := [18, 21]) (i := 18) rfl (fun _ => hx) ?_
     refine ktk_step (rs := [21]) (by kernel_rfl) ?_
     refine one_mem ?_
     intro w131 E131 _ a131 hN131 hbs131 hdp131 o_ ho_; obtain rfl := Option.some.inj ho_
     have z_w131 := E131.size
     have hx := hx.keep0 E131
     have ks := all9 ks fun _ h => h.keep0 E131
     have hk := hk.keep0 E131
     have hrest := hrest.keepG (Gr.of0 E131 NoB) (fun _ _ h => h) (NoK.no _)
     have hB5 := hB5.keep0 E131
     have hT21 := hT21.keepG (Gr.of0 E131 NoB) (fun _ _ h => h) (NoK.no _)
     have hT2_21 := hT2_21.keepG (Gr.of0 E131 NoB) (fun _ _ h => h) (NoK.no _)
     have hu21 := hu21.keep0 E131
     have hO114 := hO114.keep0 E131
     have hO123 := hO123.keep0 E131
     have hb := hb.step0 E131
     have q131_81 : Sl a131 81 (ptr p 1) := (hdp131 20 _ 81 (by kernel_rfl) rfl rfl).2 rfl
     have q131_70 : Sl a131 70 v114 := (Option.some.inj ((hdp131 9 _ 70 (by kernel_rfl) rfl rfl).1 rfl)).symm
     have hx_old := hx
     refine op_store (vs := [v114]) (cs' := [(Value.slice none 0 0), v114, cv]) size90 (ev_base hN131 rfl q131_81) (ev_base hN131 rfl q131_70) hO114.cl rfl (by simp only [List.all_cons, List.all_nil, Bool.true_and, Bool.and_true, hO114.one]; try rfl) hx (Nat.le_of_ble_eq_true rfl) rfl ?_
     intro w134 hx E135
     have z_w134 := E135.size
     have ks := all9 ks fun _ h => h.keepX hx_old E135 (by decide)
     have hk := hk.keepX hx_old E135 (by decide)
     have hrest := hrest.keepG (Gr.of E135) (Dj.one djpG) (NoK.ofBx hx_old (by decide))
     have hB5 := hB5.keep E135 (fun hh => hB5.ne hx_old (by decide) (Option.some.inj hh))
     have hT21 := hT21.keepG (Gr.of E135) (Dj.one dj30) (NoK.ofBx hx_old (by decide))
     have hT2_21 := hT2_21.keepG (Gr.of E135) (Dj.one dj36) (NoK.ofBx hx_old (by decide))
     have hu21 := hu21.keepX hx_old E135 (by decide)
     have hO114 := hO114.keepX hx_old E135 (by decide)
     have hO123 := hO123.keepX hx_old E135 (by decide)
     have hb := hb.stepB E135 hNd.wp
     refine ktk_end0 (G := fun t9 w' => 21 ∈ t9 → (Bx w' p 93 [(Value.slice none 0 0), kv, cv])) (todo := [21]) (i := 21) rfl (fun h => absurd h (by decide)) ?_
     intro w136 E136 a136 hN136 hd136 hbs136 hph136
     have hd136 := hd136.trans ((by simp only [putsL_defers] : _ = _).trans hd)
     have z_w136 := E136.size
     have ks := all9 ks fun _ h => h.keep0 E136
     have hk := hk.keep0 E136
     have hrest := hrest.keepG (Gr.of0 E136 NoB) (fun _ _ h => h) (NoK.no _)
     have hB5 := hB5.keep0 E136
     have hT21 := hT21.keepG (Gr.of0 E136 NoB) (fun _ _ h => h) (NoK.no _)
     have hT2_21 := hT2_21.keepG (Gr.of0 E136 NoB) (fun _ _ h => h) (NoK.no _)
     have hu21 := hu21.keep0 E136
     have hO114 := hO114.keep0 E136
     have hO123 := hO123.keep0 E136
     have hx := hx.keep0 E136
     have hb := hb.step0 E136
     have s136_0 := (hbs136 0 rfl).trans (sl_base hN rfl s0)
     have s136_4 := (hbs136 4 rfl).trans (sl_hit hN rfl)
     have s136_5 := (hbs136 5 rfl).trans (sl_hit hN rfl)
     have s136_6 := (hbs136 6 rfl).trans (sl_hit hN rfl)
     have s136_62 : Sl a136 62 (ptr p 0) := (hph136 1 _ 62 rfl rfl).2 rfl
     have s136_79 : Sl a136 79 v123 := (Option.some.inj ((hph136 18 _ 79 rfl rfl).1 rfl)).symm
     refine split_end ?_
     refine from_seq (tl := [_, _, _]) (by decide) (by kernel_rfl) rfl ?_
     refine op_nil (ev_base hN136 rfl s136_62) (op_field fld93_2 (ev_hit hN136 rfl) ?_)
     have hx_old := hx
     refine op_store (vs := [v123]) (cs' := [(Value.slice none 0 0), v114, v123]) size91 (ev_hit hN136 rfl) (ev_base hN136 rfl s136_79) hO123.cl rfl (by simp only [List.all_cons, List.all_nil, Bool.true_and, Bool.and_true, hO123.one]; try rfl) hx (Nat.le_of_ble_eq_true rfl) rfl ?_
     intro w139 hx E140
     have z_w139 := E140.size
     have ks := all9 ks fun _ h => h.keepX hx_old E140 (by decide)
     have hk := hk.keepX hx_old E140 (by decide)
     have hrest := hrest.keepG (Gr.of E140) (Dj.one djpG) (NoK.ofBx hx_old (by decide))
     have hB5 := hB5.keep E140 (fun hh => hB5.ne hx_old (by decide) (Option.some.inj hh))
     have hT21 := hT21.keepG (Gr.of E140) (Dj.one dj30) (NoK.ofBx hx_old (by decide))
     have hT2_21 := hT2_21.keepG (Gr.of E140) (Dj.one dj36) (NoK.ofBx hx_old (by decide))
     have hu21 := hu21.keepX hx_old E140 (by decide)
     have hO114 := hO114.keepX hx_old E140 (by decide)
     have hO123 := hO123.keepX hx_old E140 (by decide)
     have hb := hb.stepB E140 hNd.wp
     refine reg_nil (hK8 _ _ ?_)
     exact hJ53 _ _ _ hN136 hd136 ⟨v114, v123, (sl_base hN136 rfl s136_0), (sl_base hN136 rfl s136_4), (sl_base hN136 rfl s136_5), (sl_base hN136 rfl s136_6), dj117.symm, dj118.symm, dj119.symm, hin120, dj126.symm, dj127.symm, dj128.symm, hin129, hb, (by omega), ks, hk, hrest, hB5, hT21, hT2_21, hu21, (hO114.cast (n' := (K.insertIdx (way (K.map Prod.snd) k) (u21, y21)).length) (cs' := (K.insertIdx (way (K.map Prod.snd) k) (u21, y21)).flatMap cK) (by first | rfl | (simp; done) | (simp only [List.length_append, List.length_cons, List.length_nil]; omega)) (by first | rfl | simp [cK, cN, cI])), (hO123.cast (n' := (P.insertIdx ((way (K.map Prod.snd) k) + 1) q21).length) (cs' := (P.insertIdx ((way (K.map Prod.snd) k) + 1) q21).flatMap cN) (by first | rfl | (simp; done) | (simp only [List.length_append, List.length_cons, List.length_nil]; omega)) (by first | rfl | simp [cK, cN, cI])), hx⟩
    refine one_mem ?_
    intro w141 E141 _ a141 hN141 hbs141 hdp141 o_ ho_; obtain rfl := Option.some.inj ho_
    have z_w141 := E141.size
    have hx := hx.keep0 E141
    have ok := ok.keep0 E141
    have oc := oc.keep0 E141
    have ks := all9 ks fun _ h => h.keep0 E141
    have hk := hk.keep0 E141
    have hrest := hrest.keepG (Gr.of0 E141 NoB) (fun _ _ h => h) (NoK.no _)
    have hB5 := hB5.keep0 E141
    have hT21 := hT21.keepG (Gr.of0 E141 NoB) (fun _ _ h => h) (NoK.no _)
    have hT2_21 := hT2_21.keepG (Gr.of0 E141 NoB) (fun _ _ h => h) (NoK.no _)
    have hu21 := hu21.keep0 E141
    have hb := hb.step0 E141
    have q141_77 : Sl a141 77 (ptr q21 0) := (hdp141 16 _ 77 (by kernel_rfl) rfl rfl).2 rfl
    refine op_bslice (e := 86) (pv := [(0, (ptr q21 0))]) (cs := [(ptr q21 0)]) ⟨rfl, (ev_base hN141 rfl q141_77), trivial⟩ (by kernel_rfl) ?_
    intro w142 b143 lo_b143 hi_b143 hB145 E144
    have ne_b143_cv : cv.ownBlock ≠ some b143 := fun hh => by have := (oc.lt _ hh).2; omega
    have z_w142 := E144.size
    have hx := hx.keep0 E144
    have ok := ok.keep0 E144
    have oc := oc.keep0 E144
    have ks := all9 ks fun _ h => h.keep0 E144
    have hk := hk.keep0 E144
    have hrest := hrest.keepG (Gr.of0 E144 NoB) (fun _ _ h => h) (NoK.no _)
    have hB5 := hB5.keep0 E144
    have hT21 := hT21.keepG (Gr.of0 E144 NoB) (fun _ _ h => h) (NoK.no _)
    have hT2_21 := hT2_21.keepG (Gr.of0 E144 NoB) (fun _ _ h => h) (NoK.no _)
    have hu21 := hu21.keep0 E144
    have hb := hb.step0 E144
    refine ktk_end (G := fun t9 w' => 21 ∈ t9 → (Bx w' p 93 [(Value.slice none 0 0), kv, cv])) (todo := [8, 9, 17, 18, 21]) (i := 17) rfl (fun _ => hx) ?_
    refine ktk_step (rs := [8]) (by kernel_rfl) ?_
    refine one_mem ?_
    intro w150 E150 _ a150 hN150 hbs150 hdp150 o_ ho_; obtain rfl := Option.some.inj ho_
    have z_w150 := E150.size
    have hx := hx.keep0 E150
    have ok := ok.keep0 E150
    have oc := oc.keep0 E150
    have ks := all9 ks fun _ h => h.keep0 E150
    have hk := hk.keep0 E150
    have hrest := hrest.keepG (Gr.of0 E150 NoB) (fun _ _ h => h) (NoK.no _)
    have hB5 := hB5.keep0 E150
    have hT21 := hT21.keepG (Gr.of0 E150 NoB) (fun _ _ h => h) (NoK.no _)
    have hT2_21 := hT2_21.keepG (Gr.of0 E150 NoB) (fun _ _ h => h) (NoK.no _)
    have hu21 := hu21.keep0 E150
    have hB145 := hB145.keep0 E150
    have hb := hb.step0 E150
    have q150_68 : Sl a150 68 u21 := (hdp150 7 _ 68 (by kernel_rfl) rfl rfl).2 rfl
    refine op_bslice (e := 27) (pv := [(0, u21)]) (cs := [u21]) ⟨rfl, (ev_base hN150 rfl q150_68), trivial⟩ (by obtain ⟨_, _, _, rfl⟩ := hu21.sl; kernel_rfl) ?_
    intro w151 b152 lo_b152 hi_b152 hB154 E153
    have ne_b152_kv : kv.ownBlock ≠ some b152 := fun hh => by have := (ok.lt _ hh).2; omega
    have z_w151 := E153.size
    have hx := hx.keep0 E153
    have ok := ok.keep0 E153
    have oc := oc.keep0 E153
    have ks := all9 ks fun _ h => h.keep0 E153
    have hk := hk.keep0 E153
    have hrest := hrest.keepG (Gr.of0 E153 NoB) (fun _ _ h => h) (NoK.no _)
    have hB5 := hB5.keep0 E153
    have hT21 := hT21.keepG (Gr.of0 E153 NoB) (fun _ _ h => h) (NoK.no _)
    have hT2_21 := hT2_21.keepG (Gr.of0 E153 NoB) (fun _ _ h => h) (NoK.no _)
    have hu21 := hu21.keep0 E153
    have hB145 := hB145.keep0 E153
    have hb := hb.step0 E153
    refine ktk_end (G := fun t9 w' => 21 ∈ t9 → (Bx w' p 93 [(Value.slice none 0 0), kv, cv])) (todo := [8, 9, 18, 21]) (i := 8) rfl (fun _ => hx) ?_
    refine ktk_step (rs := [9]) (by kernel_rfl) ?_
    refine one_mem ?_
    intro w159 E159 _ a159 hN159 hbs159 hdp159 o_ ho_; obtain rfl := Option.some.inj ho_
    have z_w159 := E159.size
    have hx := hx.keep0 E159
    have ok := ok.keep0 E159
    have oc := oc.keep0 E159
    have ks := all9 ks fun _ h => h.keep0 E159
    have hk := hk.keep0 E159
    have hrest := hrest.keepG (Gr.of0 E159 NoB) (fun _ _ h => h) (NoK.no _)
    have hB5 := hB5.keep0 E159
    have hT21 := hT21.keepG (Gr.of0 E159 NoB) (fun _ _ h => h) (NoK.no _)
    have hT2_21 := hT2_21.keepG (Gr.of0 E159 NoB) (fun _ _ h => h) (NoK.no _)
    have hu21 := hu21.keep0 E159
    have hB145 := hB145.keep0 E159
    have hB154 := hB154.keep0 E159
    have hb := hb.step0 E159
    have q159_66 : Sl a159 66 kv := (hdp159 5 _ 66 (by kernel_rfl) rfl rfl).2 rfl
    have q159_67 : Sl a159 67 (Value.int .i64 (((way (K.map Prod.snd) k) : Nat) : Int)) := (hdp159 6 _ 67 (by kernel_rfl) rfl rfl).2 rfl
    have q159_69 : Sl a159 69 (Value.slice (some ⟨b152, 0, none⟩) 1 1) := (Option.some.inj ((hdp159 8 _ 69 (by kernel_rfl) rfl rfl).1 rfl)).symm
    refine op_fn (vs := [kv, (Value.int .i64 (((way (K.map Prod.snd) k) : Nat) : Int)), (Value.slice (some ⟨b152, 0, none⟩) 1 1)]) ok67 ⟨(ev_base hN159 rfl q159_66), ⟨(ev_base hN159 rfl q159_67), ⟨(ev_base hN159 rfl q159_69), trivial⟩⟩⟩ (InsK ok hB154 (one_kd ks (fun _ h => h)) (by simp only [List.all_cons, List.all_nil, Bool.true_and, Bool.and_true, hu21.one]; try rfl) (by first | omega | (simp only [List.length_insertIdx, List.length_set, List.length_drop, List.length_take]; omega) | (simp; omega)) (by first | omega | (simp only [List.length_insertIdx, List.length_set, List.length_drop, List.length_take]; omega) | (simp; omega)) ne_b152_kv) ?_
    rintro v160 w161 ⟨E162, hO160, hm160⟩
    have dj163 : Dj G0 (Bl v160) := Dj.step hm160 (fun k hk => (hrest.lt k hk).2) djkG.symm
    have dj164 : Dj W1_21 (Bl v160) := Dj.step hm160 (fun k hk => (hT21.lt k hk).2) dj31.symm
    have dj165 : Dj W2_21 (Bl v160) := Dj.step hm160 (fun k hk => (hT2_21.lt k hk).2) dj37.symm
    have hin166 := inF_step (n := w.heap.size) hm160 (by omega) (fun k _ h => hNd.wk k h)
    have z_w161 := E162.size
    have hx := hx.keepO ok E162 (by decide)
    have oc := oc.keepT ok E162 (by decide)
    have ks := all9 ks fun _ h => h.keepT ok E162 (by decide)
    have hk := hk.keepT ok E162 (by decide)
    have hrest := hrest.keepG (Gr.of E162) djkG.symm (NoK.ofOwn ok (by decide))
    have hB5 := hB5.keepO ok E162 (by decide)
    have hT21 := hT21.keepG (Gr.of E162) dj31.symm (NoK.ofOwn ok (by decide))
    have hT2_21 := hT2_21.keepG (Gr.of E162) dj37.symm (NoK.ofOwn ok (by decide))
    have hu21 := hu21.keepT ok E162 (by decide)
    have hB145 := hB145.keepO ok E162 (by decide)
    have hb := hb.stepL E162 (fun k _ h => hNd.wk k h)
    have hO160 : Own w161 0 27 1 v160 (K.insertIdx (way (K.map Prod.snd) k) (u21, y21)).length ((K.insertIdx (way (K.map Prod.snd) k) (u21, y21)).flatMap cK) := hO160.cast (by rw [List.length_insertIdx, if_pos (by first | omega | (simp only [List.length_insertIdx, List.length_set, List.length_drop, List.length_take]; omega) | (simp; omega))]) (flat_ins cK_len (u21, y21) (by first | omega | (simp only [List.length_insertIdx, List.length_set, List.length_drop, List.length_take]; omega) | (simp; omega)))
    refine ktk_end (G := fun t9 w' => 21 ∈ t9 → (Bx w' p 93 [(Value.slice none 0 0), kv, cv])) (todo := [9, 18, 21]) (i := 9) rfl (fun _ => hx) ?_
    refine ktk_step (rs := [18]) (by kernel_rfl) ?_
    refine one_mem ?_
    intro w168 E168 _ a168 hN168 hbs168 hdp168 o_ ho_; obtain rfl := Option.some.inj ho_
    have z_w168 := E168.size
    have hx := hx.keep0 E168
    have oc := oc.keep0 E168
    have ks := all9 ks fun _ h => h.keep0 E168
    have hk := hk.keep0 E168
    have hrest := hrest.keepG (Gr.of0 E168 NoB) (fun _ _ h => h) (NoK.no _)
    have hB5 := hB5.keep0 E168
    have hT21 := hT21.keepG (Gr.of0 E168 NoB) (fun _ _ h => h) (NoK.no _)
    have hT2_21 := hT2_21.keepG (Gr.of0 E168 NoB) (fun _ _ h => h) (NoK.no _)
    have hu21 := hu21.keep0 E168
    have hB145 := hB145.keep0 E168
    have hO160 := hO160.keep0 E168
    have hb := hb.step0 E168
    have q168_74 : Sl a168 74 cv := (hdp168 13 _ 74 (by kernel_rfl) rfl rfl).2 rfl
    have q168_76 : Sl a168 76 (Value.int .i64 ((((way (K.map Prod.snd) k) : Nat) : Int) + 1)) := (hdp168 15 _ 76 (by kernel_rfl) rfl rfl).2 rfl
    have q168_78 : Sl a168 78 (Value.slice (some ⟨b143, 0, none⟩) 1 1) := (Option.some.inj ((hdp168 17 _ 78 (by kernel_rfl) rfl rfl).1 rfl)).symm
    refine op_fn (vs := [cv, (Value.int .i64 ((((way (K.map Prod.snd) k) : Nat) : Int) + 1)), (Value.slice (some ⟨b143, 0, none⟩) 1 1)]) ok68 ⟨(ev_base hN168 rfl q168_74), ⟨(ev_base hN168 rfl q168_76), ⟨(ev_base hN168 rfl q168_78), trivial⟩⟩⟩ (InsNS oc hB145 (one_pn _) rfl (by first | omega | (simp only [List.length_insertIdx, List.length_set, List.length_drop, List.length_take]; omega) | (simp; omega)) (by first | omega | (simp only [List.length_insertIdx, List.length_set, List.length_drop, List.length_take]; omega) | (simp; omega)) ne_b143_cv) ?_
    rintro v169 w170 ⟨E171, hO169, hm169⟩
    have dj172 : Dj G0 (Bl v169) := Dj.step hm169 (fun k hk => (hrest.lt k hk).2) djcG.symm
    have dj173 : Dj W1_21 (Bl v169) := Dj.step hm169 (fun k hk => (hT21.lt k hk).2) dj32.symm
    have dj174 : Dj W2_21 (Bl v169) := Dj.step hm169 (fun k hk => (hT2_21.lt k hk).2) dj38.symm
    have hin175 := inF_step (n := w.heap.size) hm169 (by omega) (fun k _ h => hNd.wc k h)
    have z_w170 := E171.size
    have hx := hx.keepO oc E171 (by decide)
    have ks := all9 ks fun _ h => h.keepT oc E171 (by decide)
    have hk := hk.keepT oc E171 (by decide)
    have hrest := hrest.keepG (Gr.of E171) djcG.symm (NoK.ofOwn oc (by decide))
    have hB5 := hB5.keepO oc E171 (by decide)
    have hT21 := hT21.keepG (Gr.of E171) dj32.symm (NoK.ofOwn oc (by decide))
    have hT2_21 := hT2_21.keepG (Gr.of E171) dj38.symm (NoK.ofOwn oc (by decide))
    have hu21 := hu21.keepT oc E171 (by decide)
    have hO160 := hO160.keepT oc E171 (by decide)
    have hb := hb.stepL E171 (fun k _ h => hNd.wc k h)
    have hO169 : Own w170 0 86 1 v169 (P.insertIdx (((way (K.map Prod.snd) k)) + 1) q21).length ((P.insertIdx (((way (K.map Prod.snd) k)) + 1) q21).flatMap cN) := hO169.cast (by rw [List.length_insertIdx, if_pos (by first | omega | (simp only [List.length_insertIdx, List.length_set, List.length_drop, List.length_take]; omega) | (simp; omega))]) (flat_ins cN_len q21 (by first | omega | (simp only [List.length_insertIdx, List.length_set, List.length_drop, List.length_take]; omega) | (simp; omega)))
    refine ktk_end (G := fun t9 w' => 21 ∈ t9 → (Bx w' p 93 [(Value.slice none 0 0), kv, cv])) (todo := [18, 21]) (i := 18) rfl (fun _ => hx) ?_
    refine ktk_step (rs := [21]) (by kernel_rfl) ?_
    refine one_mem ?_
    intro w177 E177 _ a177 hN177 hbs177 hdp177 o_ ho_; obtain rfl := Option.some.inj ho_
    have z_w177 := E177.size
    have hx := hx.keep0 E177
    have ks := all9 ks fun _ h => h.keep0 E177
    have hk := hk.keep0 E177
    have hrest := hrest.keepG (Gr.of0 E177 NoB) (fun _ _ h => h) (NoK.no _)
    have hB5 := hB5.keep0 E177
    have hT21 := hT21.keepG (Gr.of0 E177 NoB) (fun _ _ h => h) (NoK.no _)
    have hT2_21 := hT2_21.keepG (Gr.of0 E177 NoB) (fun _ _ h => h) (NoK.no _)
    have hu21 := hu21.keep0 E177
    have hO160 := hO160.keep0 E177
    have hO169 := hO169.keep0 E177
    have hb := hb.step0 E177
    have q177_81 : Sl a177 81 (ptr p 1) := (hdp177 20 _ 81 (by kernel_rfl) rfl rfl).2 rfl
    have q177_70 : Sl a177 70 v160 := (Option.some.inj ((hdp177 9 _ 70 (by kernel_rfl) rfl rfl).1 rfl)).symm
    have hx_old := hx
    refine op_store (vs := [v160]) (cs' := [(Value.slice none 0 0), v160, cv]) size90 (ev_base hN177 rfl q177_81) (ev_base hN177 rfl q177_70) hO160.cl rfl (by simp only [List.all_cons, List.all_nil, Bool.true_and, Bool.and_true, hO160.one]; try rfl) hx (Nat.le_of_ble_eq_true rfl) rfl ?_
    intro w180 hx E181
    have z_w180 := E181.size
    have ks := all9 ks fun _ h => h.keepX hx_old E181 (by decide)
    have hk := hk.keepX hx_old E181 (by decide)
    have hrest := hrest.keepG (Gr.of E181) (Dj.one djpG) (NoK.ofBx hx_old (by decide))
    have hB5 := hB5.keep E181 (fun hh => hB5.ne hx_old (by decide) (Option.some.inj hh))
    have hT21 := hT21.keepG (Gr.of E181) (Dj.one dj30) (NoK.ofBx hx_old (by decide))
    have hT2_21 := hT2_21.keepG (Gr.of E181) (Dj.one dj36) (NoK.ofBx hx_old (by decide))
    have hu21 := hu21.keepX hx_old E181 (by decide)
    have hO160 := hO160.keepX hx_old E181 (by decide)
    have hO169 := hO169.keepX hx_old E181 (by decide)
    have hb := hb.stepB E181 hNd.wp
    refine ktk_end0 (G := fun t9 w' => 21 ∈ t9 → (Bx w' p 93 [(Value.slice none 0 0), kv, cv])) (todo := [21]) (i := 21) rfl (fun h => absurd h (by decide)) ?_
    intro w182 E182 a182 hN182 hd182 hbs182 hph182
    have hd182 := hd182.trans ((by simp only [putsL_defers] : _ = _).trans hd)
    have z_w182 := E182.size
    have ks := all9 ks fun _ h => h.keep0 E182
    have hk := hk.keep0 E182
    have hrest := hrest.keepG (Gr.of0 E182 NoB) (fun _ _ h => h) (NoK.no _)
    have hB5 := hB5.keep0 E182
    have hT21 := hT21.keepG (Gr.of0 E182 NoB) (fun _ _ h => h) (NoK.no _)
    have hT2_21 := hT2_21.keepG (Gr.of0 E182 NoB) (fun _ _ h => h) (NoK.no _)
    have hu21 := hu21.keep0 E182
    have hO160 := hO160.keep0 E182
    have hO169 := hO169.keep0 E182
    have hx := hx.keep0 E182
    have hb := hb.step0 E182
    have s182_0 := (hbs182 0 rfl).trans (sl_base hN rfl s0)
    have s182_4 := (hbs182 4 rfl).trans (sl_hit hN rfl)
    have s182_5 := (hbs182 5 rfl).trans (sl_hit hN rfl)
    have s182_6 := (hbs182 6 rfl).trans (sl_hit hN rfl)
    have s182_62 : Sl a182 62 (ptr p 0) := (hph182 1 _ 62 rfl rfl).2 rfl
    have s182_79 : Sl a182 79 v169 := (Option.some.inj ((hph182 18 _ 79 rfl rfl).1 rfl)).symm
    refine split_end ?_
    refine from_seq (tl := [_, _, _]) (by decide) (by kernel_rfl) rfl ?_
    refine op_nil (ev_base hN182 rfl s182_62) (op_field fld93_2 (ev_hit hN182 rfl) ?_)
    have hx_old := hx
    refine op_store (vs := [v169]) (cs' := [(Value.slice none 0 0), v160, v169]) size91 (ev_hit hN182 rfl) (ev_base hN182 rfl s182_79) hO169.cl rfl (by simp only [List.all_cons, List.all_nil, Bool.true_and, Bool.and_true, hO169.one]; try rfl) hx (Nat.le_of_ble_eq_true rfl) rfl ?_
    intro w185 hx E186
    have z_w185 := E186.size
    have ks := all9 ks fun _ h => h.keepX hx_old E186 (by decide)
    have hk := hk.keepX hx_old E186 (by decide)
    have hrest := hrest.keepG (Gr.of E186) (Dj.one djpG) (NoK.ofBx hx_old (by decide))
    have hB5 := hB5.keep E186 (fun hh => hB5.ne hx_old (by decide) (Option.some.inj hh))
    have hT21 := hT21.keepG (Gr.of E186) (Dj.one dj30) (NoK.ofBx hx_old (by decide))
    have hT2_21 := hT2_21.keepG (Gr.of E186) (Dj.one dj36) (NoK.ofBx hx_old (by decide))
    have hu21 := hu21.keepX hx_old E186 (by decide)
    have hO160 := hO160.keepX hx_old E186 (by decide)
    have hO169 := hO169.keepX hx_old E186 (by decide)
    have hb := hb.stepB E186 hNd.wp
    refine reg_nil (hK8 _ _ ?_)
    exact hJ53 _ _ _ hN182 hd182 ⟨v160, v169, (sl_base hN182 rfl s182_0), (sl_base hN182 rfl s182_4), (sl_base hN182 rfl s182_5), (sl_base hN182 rfl s182_6), dj163.symm, dj164.symm, dj165.symm, hin166, dj172.symm, dj173.symm, dj174.symm, hin175, hb, (by omega), ks, hk, hrest, hB5, hT21, hT2_21, hu21, (hO160.cast (n' := (K.insertIdx (way (K.map Prod.snd) k) (u21, y21)).length) (cs' := (K.insertIdx (way (K.map Prod.snd) k) (u21, y21)).flatMap cK) (by first | rfl | (simp; done) | (simp only [List.length_append, List.length_cons, List.length_nil]; omega)) (by first | rfl | simp [cK, cN, cI])), (hO169.cast (n' := (P.insertIdx ((way (K.map Prod.snd) k) + 1) q21).length) (cs' := (P.insertIdx ((way (K.map Prod.snd) k) + 1) q21).flatMap cN) (by first | rfl | (simp; done) | (simp only [List.length_append, List.length_cons, List.length_nil]; omega)) (by first | rfl | simp [cK, cN, cI])), hx⟩
  ·
   rintro a53 w53 hN53 hd53 ⟨vk, vc, s53_0, s53_4, s53_5, s53_6, dj44, dj45, dj46, hin47, dj48, dj49, dj50, hin51, hb, zl_w53, ks, hk, hrest, hB5, hT21, hT2_21, hu21, hO54, hO55, hbj52⟩
   have z_w53 := hb.size
   refine seq_any fun K187 hK187 => one_reg ?_
   have hl1 : (K.insertIdx (way (K.map Prod.snd) k) (u21, y21)).length = K.length + 1 := by rw [List.length_insertIdx, if_pos hwl]
   have hl2 : (P.insertIdx ((way (K.map Prod.snd) k) + 1) q21).length = P.length + 1 := by rw [List.length_insertIdx, if_pos (by omega)]
   have ks188 : ∀ x9 ∈ (K.insertIdx (way (K.map Prod.snd) k) (u21, y21)), Own w53 0 5 1 x9.1 x9.2.length (x9.2.map u8v) := kks_ins ks hu21 hwl
   refine op_move (ev_base hN53 rfl s53_0) ?_
   rcases Bool.eq_false_or_eq_true (decide ((K.insertIdx (way (K.map Prod.snd) k) (u21, y21)).length ≤ 6)) with k86 | k86
   · -- 86T
    refine op_fn (vs := [(ptr p 0)]) ok69 ⟨(ev_hit hN53 rfl), trivial⟩ (Ret.flip (halvesNsS hbj52 hO54 hO55 (by first | omega | (simp only [List.length_insertIdx, List.length_set, List.length_drop, List.length_take]; omega) | (simp; omega)) (of_decide_eq_true k86))) ?_
    rintro _ _ ⟨rfl, rfl⟩
    refine op_move (ev_hit hN53 rfl) (op_extract (ev_hit hN53 rfl) rfl ?_)
    refine op_extract (ev_hit hN53 rfl) rfl ?_
    refine op_assign (ev_hit hN53 rfl) ?_
    refine op_assign (ev_hit hN53 rfl) ?_
    refine reg_nil ?_
    refine hK187 _ _ (seq_any fun K189 hK189 => one_reg (op_move (ev_base hN53 rfl s53_4) (op_move (ev_hit hN53 rfl) (op_move (ev_hit hN53 rfl) (op_assign (ev_hit hN53 rfl) ?_)))))
    refine op_assign (ev_hit hN53 rfl) ?_
    refine op_assign (ev_hit hN53 rfl) ?_
    refine reg_nil (hK189 _ _ (wp_ret ?_))
    refine retN (rs := [.tmp 4, .tmp 5, .tmp 6]) (vs := [(Value.bool (putT h k x c).1), (Value.slice none 0 0), (Value.pointer none)]) rfl hd53 ⟨(ev_hit hN53 rfl), ⟨(ev_hit hN53 rfl), ⟨(ev_hit hN53 rfl), trivial⟩⟩⟩ rfl ⟨_, rfl, ?_⟩
    exact ⟨hb, _, _, by rw [(put_some (u := u21) hc hr21 hwl)]; rfl, out_node_small (K := (K.insertIdx (way (K.map Prod.snd) k) (u21, y21))) (ts := ((cs.set (way (K.map Prod.snd) k) (putT h k x c).2.1).insertIdx ((way (K.map Prod.snd) k) + 1) t2_21)) ((congrArg Prod.snd (put_some (u := u21) hc hr21 hwl)).trans (halves_nsmall (by simpa using of_decide_eq_true k86))) hbj52 hO54 hO55 ks188 (kks_ins hNd.kr hur21 hwl) (Kids.ins (i := (way (K.map Prod.snd) k) + 1) (Kids.back1 (i := (way (K.map Prod.snd) k)) (A := TreeR kS R w53 h) hrest hPc hic hT21 dj34.symm) (by rw [List.length_set]; omega) hT2_21 (fun k h1 h2 => h2.elim (hd21.symm k h1) (dj40.symm k h1))) (fun h9 => h9.elim (fun h8 => dj36 h8) (fun h8 => h8.elim (fun h8 => dj30 h8) (fun h8 => djpG h8))) (fun j hj h9 => h9.elim (fun h8 => dj46 j hj h8) (fun h8 => h8.elim (fun h8 => dj45 j hj h8) (fun h8 => dj44 j hj h8))) (fun j hj h9 => h9.elim (fun h8 => dj50 j hj h8) (fun h8 => h8.elim (fun h8 => dj49 j hj h8) (fun h8 => dj48 j hj h8))) (nodeW_in (fun _ => hNd.wp) hin47 hin51 (fun j hj h9 => h9.elim (fun h8 => hin43 j hj h8) (fun h8 => h8.elim (fun h8 => hin42 j hj h8) (fun h8 => (fun j _ q => hNd.wg j (hGs j q)) j hj h8))))⟩
   · -- 86F
    refine op_fn (vs := [(ptr p 0)]) ok69 ⟨(ev_hit hN53 rfl), trivial⟩ (halvesNbS hbj52 hO54 hO55 ks188 (by first | omega | (simp only [List.length_insertIdx, List.length_set, List.length_drop, List.length_take]; omega) | (simp; omega)) (by have := of_decide_eq_false k86; omega) (by first | omega | (simp only [List.length_insertIdx, List.length_set, List.length_drop, List.length_take]; omega) | (simp; omega))) ?_
    rintro _ w191 ⟨E192, q190, qk190, qc190, rfl, hx190, oa190, ob190, lo190, hB190, oc190, od190⟩
    have ht193 := hbj52.lt
    have ht194 := hO54.lt
    have ht195 := hO55.lt
    have ht196 := hrest.lt
    have ht197 := hT21.lt
    have ht198 := hT2_21.lt
    have E192 := E192.grown (row := some p) (fun k _ h => by rw [h])
    have hbj52_old := hbj52
    have z_w191 := E192.size
    have hrest := hrest.keepG (Gr.of E192) (Dj.one djpG) (NoK.ofBx hbj52_old (by decide))
    have hT21 := hT21.keepG (Gr.of E192) (Dj.one dj30) (NoK.ofBx hbj52_old (by decide))
    have hT2_21 := hT2_21.keepG (Gr.of E192) (Dj.one dj36) (NoK.ofBx hbj52_old (by decide))
    have ks188 := all9 ks188 fun _ h => h.keepX hbj52_old E192 (by decide)
    have hb := hb.stepB E192 hNd.wp
    refine op_move (ev_hit hN53 rfl) (op_extract (ev_hit hN53 rfl) rfl ?_)
    refine op_extract (ev_hit hN53 rfl) rfl ?_
    refine op_assign (ev_hit hN53 rfl) ?_
    refine op_assign (ev_hit hN53 rfl) ?_
    refine reg_nil ?_
    refine hK187 _ _ (seq_any fun K199 hK199 => one_reg (op_move (ev_base hN53 rfl s53_4) (op_move (ev_hit hN53 rfl) (op_move (ev_hit hN53 rfl) (op_assign (ev_hit hN53 rfl) ?_)))))
    refine op_assign (ev_hit hN53 rfl) ?_
    refine op_assign (ev_hit hN53 rfl) ?_
    refine reg_nil (hK199 _ _ (wp_ret ?_))
    refine retN (rs := [.tmp 4, .tmp 5, .tmp 6]) (vs := [(Value.bool (putT h k x c).1), ((K.insertIdx (way (K.map Prod.snd) k) (u21, y21)).getD ((K.insertIdx (way (K.map Prod.snd) k) (u21, y21)).length / 2) default).1, (ptr q190 0)]) rfl hd53 ⟨(ev_hit hN53 rfl), ⟨(ev_hit hN53 rfl), ⟨(ev_hit hN53 rfl), trivial⟩⟩⟩ rfl ⟨_, rfl, ?_⟩
    exact ⟨hb, _, _, by rw [(put_some (u := u21) hc hr21 hwl)]; rfl, out_node_big (K := (K.insertIdx (way (K.map Prod.snd) k) (u21, y21))) (ts := ((cs.set (way (K.map Prod.snd) k) (putT h k x c).2.1).insertIdx ((way (K.map Prod.snd) k) + 1) t2_21)) ((congrArg Prod.snd (put_some (u := u21) hc hr21 hwl)).trans (halves_nbig (by have := of_decide_eq_false k86; omega))) (by have := of_decide_eq_false k86; omega) hx190 oa190 ob190 hB190 oc190 od190 lo190 (by omega) ks188 (kks_ins hNd.kr hur21 hwl) (Kids.ins (i := (way (K.map Prod.snd) k) + 1) (Kids.back1 (i := (way (K.map Prod.snd) k)) (A := TreeR kS R w191 h) hrest hPc hic hT21 dj34.symm) (by rw [List.length_set]; omega) hT2_21 (fun k h1 h2 => h2.elim (hd21.symm k h1) (dj40.symm k h1))) (fun h9 => h9.elim (fun h8 => dj36 h8) (fun h8 => h8.elim (fun h8 => dj30 h8) (fun h8 => djpG h8))) (fun j hj h9 => h9.elim (fun h8 => dj46 j ((hiV_ob _ _).symm.trans hj) h8) (fun h8 => h8.elim (fun h8 => dj45 j ((hiV_ob _ _).symm.trans hj) h8) (fun h8 => dj44 j ((hiV_ob _ _).symm.trans hj) h8))) (fun j hj h9 => h9.elim (fun h8 => dj50 j ((hiV_ob _ _).symm.trans hj) h8) (fun h8 => h8.elim (fun h8 => dj49 j ((hiV_ob _ _).symm.trans hj) h8) (fun h8 => dj48 j ((hiV_ob _ _).symm.trans hj) h8))) (nodeW_in (fun _ => hNd.wp) (inF_step (n := w.heap.size) (.inl (hiV_ob _ _)) (Nat.le_refl _) hin47) (inF_step (n := w.heap.size) (.inl (hiV_ob _ _)) (Nat.le_refl _) hin51) (fun j hj h9 => h9.elim (fun h8 => hin43 j hj h8) (fun h8 => h8.elim (fun h8 => hin42 j hj h8) (fun h8 => (fun j _ q => hNd.wg j (hGs j q)) j hj h8)))) (nodeW_lt ht193 (fun j h9 => (ht194 j ((hiV_ob _ _).symm.trans h9)).2) (fun j h9 => (ht195 j ((hiV_ob _ _).symm.trans h9)).2) (fun j h9 => h9.elim (fun h8 => (ht198 j h8).2) (fun h8 => h8.elim (fun h8 => (ht197 j h8).2) (fun h8 => (ht196 j h8).2))))⟩
 · -- 55F
  refine op_fn (vs := [(ptr (P.getD ((way (K.map Prod.snd) k)) default) 0), (Value.agg #[yv, (Value.string (bs x))])]) ok40 ⟨(ev_hit hN rfl), ⟨(ev_hit hN rfl), trivial⟩⟩ (IH hkid hcO (by have := (hz c (List.mem_of_getElem? hc)).2; omega) hk hkr) ?_
  rintro _ w201 ⟨E202, u200, m200, rfl, ho200⟩
  have bd203 := hx.lt
  have bd204 := ok.lt
  have bd205 := oc.lt
  have bd206 := hk.lt
  have bd207 := hrest.lt
  have bd208 := hB5.lt
  obtain ⟨hr200, rfl, rfl, W1_200, hT200, hN1_200⟩ := outR_none k55 ho200
  have hkid_old := hkid
  have z_w201 := E202.size
  have hx := hx.keepG E202 djpf
  have ok := ok.keepG E202 djkf
  have oc := oc.keepG E202 djcf
  have ks : ∀ x9 ∈ K, Own w201 0 5 1 x9.1 x9.2.length (x9.2.map u8v) := fun x9 hx9 => (ks x9 hx9).keepG E202 (hkid_old.notOwn (ks x9 hx9) (by decide) (by decide) (by decide) (by decide))
  have hk := hk.keepG E202 (hkid_old.notOwn hk (by decide) (by decide) (by decide) (by decide))
  have hrest := hrest.keepG E202 hfG.symm (hkid_old.noK kS_fine)
  have hb := hb.stepF E202 (fun k _ h => hNd.wg k (hfs k h))
  have dj209 : ¬ W1_200 p := ne_stepF hN1_200 bd203 djpf
  have dj210 : Dj (Bl kv) W1_200 := Dj.stepF hN1_200 (fun k hk => (bd204 k hk).2) djkf
  have dj211 : Dj (Bl cv) W1_200 := Dj.stepF hN1_200 (fun k hk => (bd205 k hk).2) djcf
  have dj213 : Dj G0 W1_200 := Dj.stepF hN1_200 (fun k hk => (bd207 k hk).2) hfG.symm
  have hin215 := in_newF (hN1_200.mono (t := w.heap.size) (by omega)) (fun k hk => hNd.wg k (hfs k hk))
  refine from_next ?_
  refine from_still (m := 16) 7 (hd := [_, _, _, _, _, _, _]) (by kernel_rfl) rfl rfl ?_
  refine st_step rfl (fun _ h9 => op_move (ev_hit hN rfl) h9) ?_
  refine st_step rfl (fun _ h9 => op_extract (ev_hit hN rfl) rfl h9) ?_
  refine st_step rfl (fun _ h9 => op_extract (ev_hit hN rfl) rfl h9) ?_
  refine st_step rfl (fun _ h9 => op_extract (ev_hit hN rfl) rfl h9) ?_
  refine st_step rfl (fun _ h9 => op_assign (ev_hit hN rfl) h9) ?_
  refine st_step rfl (fun _ h9 => op_assign (ev_hit hN rfl) h9) ?_
  refine st_step rfl (fun _ h9 => op_assign (ev_hit hN rfl) h9) ?_
  refine st_nil ?_
  refine from_end ?_ rfl
  refine hK15 _ _ (seq_any fun K216 hK216 => one_reg (op_move (ev_hit hN rfl) (op_pne_none ptrt86 (ev_hit hN rfl) rfl ?_)))
  refine reg_nil (hK216 _ _ (wp_cond_false (ev_hit hN rfl) ?_))
  refine wp_skip ?_
  refine hK8 _ _ (seq_any fun K217 hK217 => one_reg ?_)
  skip
  refine op_move (ev_base hN rfl s0) ?_
  rcases Bool.eq_false_or_eq_true (decide (K.length ≤ 6)) with k86 | k86
  · -- 86T
   refine op_fn (vs := [(ptr p 0)]) ok69 ⟨(ev_hit hN rfl), trivial⟩ (Ret.flip (halvesNsS hx ok oc (by first | omega | (simp only [List.length_insertIdx, List.length_set, List.length_drop, List.length_take]; omega) | (simp; omega)) (of_decide_eq_true k86))) ?_
   rintro _ _ ⟨rfl, rfl⟩
   refine op_move (ev_hit hN rfl) (op_extract (ev_hit hN rfl) rfl ?_)
   refine op_extract (ev_hit hN rfl) rfl ?_
   refine op_assign (ev_hit hN rfl) ?_
   refine op_assign (ev_hit hN rfl) ?_
   refine reg_nil ?_
   refine hK217 _ _ (seq_any fun K218 hK218 => one_reg (op_move (ev_hit hN rfl) (op_move (ev_hit hN rfl) (op_move (ev_hit hN rfl) (op_assign (ev_hit hN rfl) ?_)))))
   refine op_assign (ev_hit hN rfl) ?_
   refine op_assign (ev_hit hN rfl) ?_
   refine reg_nil (hK218 _ _ (wp_ret ?_))
   refine retN (rs := [.tmp 4, .tmp 5, .tmp 6]) (vs := [(Value.bool (putT h k x c).1), (Value.slice none 0 0), (Value.pointer none)]) rfl hd ⟨(ev_hit hN rfl), ⟨(ev_hit hN rfl), ⟨(ev_hit hN rfl), trivial⟩⟩⟩ rfl ⟨_, rfl, ?_⟩
   exact ⟨hb, _, _, by rw [(put_none hc hr200)]; rfl, out_node_small (K := K) (ts := (cs.set (way (K.map Prod.snd) k) (putT h k x c).2.1)) ((congrArg Prod.snd (put_none hc hr200)).trans (halves_nsmall (by simpa using of_decide_eq_true k86))) hx ok oc ks hNd.kr (Kids.back1 (i := (way (K.map Prod.snd) k)) (A := TreeR kS R w201 h) hrest hPc hic hT200 dj213.symm) (fun h9 => h9.elim (fun h8 => dj209 h8) (fun h8 => djpG h8)) (fun j hj h9 => h9.elim (fun h8 => dj210 j hj h8) (fun h8 => djkG j hj h8)) (fun j hj h9 => h9.elim (fun h8 => dj211 j hj h8) (fun h8 => djcG j hj h8)) (nodeW_in (fun _ => hNd.wp) (fun k _ h => hNd.wk k h) (fun k _ h => hNd.wc k h) (fun j hj h9 => h9.elim (fun h8 => hin215 j hj h8) (fun h8 => (fun j _ q => hNd.wg j (hGs j q)) j hj h8)))⟩
  · -- 86F
   refine op_fn (vs := [(ptr p 0)]) ok69 ⟨(ev_hit hN rfl), trivial⟩ (halvesNbS hx ok oc ks (by first | omega | (simp only [List.length_insertIdx, List.length_set, List.length_drop, List.length_take]; omega) | (simp; omega)) (by have := of_decide_eq_false k86; omega) (by first | omega | (simp only [List.length_insertIdx, List.length_set, List.length_drop, List.length_take]; omega) | (simp; omega))) ?_
   rintro _ w220 ⟨E221, q219, qk219, qc219, rfl, hx219, oa219, ob219, lo219, hB219, oc219, od219⟩
   have ht222 := hx.lt
   have ht223 := ok.lt
   have ht224 := oc.lt
   have ht225 := hrest.lt
   have ht226 := hT200.lt
   have E221 := E221.grown (row := some p) (fun k _ h => by rw [h])
   have hx_old := hx
   have z_w220 := E221.size
   have ks := all9 ks fun _ h => h.keepX hx_old E221 (by decide)
   have hrest := hrest.keepG (Gr.of E221) (Dj.one djpG) (NoK.ofBx hx_old (by decide))
   have hT200 := hT200.keepG (Gr.of E221) (Dj.one dj209) (NoK.ofBx hx_old (by decide))
   have hb := hb.stepB E221 hNd.wp
   refine op_move (ev_hit hN rfl) (op_extract (ev_hit hN rfl) rfl ?_)
   refine op_extract (ev_hit hN rfl) rfl ?_
   refine op_assign (ev_hit hN rfl) ?_
   refine op_assign (ev_hit hN rfl) ?_
   refine reg_nil ?_
   refine hK217 _ _ (seq_any fun K227 hK227 => one_reg (op_move (ev_hit hN rfl) (op_move (ev_hit hN rfl) (op_move (ev_hit hN rfl) (op_assign (ev_hit hN rfl) ?_)))))
   refine op_assign (ev_hit hN rfl) ?_
   refine op_assign (ev_hit hN rfl) ?_
   refine reg_nil (hK227 _ _ (wp_ret ?_))
   refine retN (rs := [.tmp 4, .tmp 5, .tmp 6]) (vs := [(Value.bool (putT h k x c).1), (K.getD (K.length / 2) default).1, (ptr q219 0)]) rfl hd ⟨(ev_hit hN rfl), ⟨(ev_hit hN rfl), ⟨(ev_hit hN rfl), trivial⟩⟩⟩ rfl ⟨_, rfl, ?_⟩
   exact ⟨hb, _, _, by rw [(put_none hc hr200)]; rfl, out_node_big (K := K) (ts := (cs.set (way (K.map Prod.snd) k) (putT h k x c).2.1)) ((congrArg Prod.snd (put_none hc hr200)).trans (halves_nbig (by have := of_decide_eq_false k86; omega))) (by have := of_decide_eq_false k86; omega) hx219 oa219 ob219 hB219 oc219 od219 lo219 (by omega) ks hNd.kr (Kids.back1 (i := (way (K.map Prod.snd) k)) (A := TreeR kS R w220 h) hrest hPc hic hT200 dj213.symm) (fun h9 => h9.elim (fun h8 => dj209 h8) (fun h8 => djpG h8)) (fun j hj h9 => h9.elim (fun h8 => dj210 j ((hiV_ob _ _).symm.trans hj) h8) (fun h8 => djkG j ((hiV_ob _ _).symm.trans hj) h8)) (fun j hj h9 => h9.elim (fun h8 => dj211 j ((hiV_ob _ _).symm.trans hj) h8) (fun h8 => djcG j ((hiV_ob _ _).symm.trans hj) h8)) (nodeW_in (fun _ => hNd.wp) (inF_step (n := w.heap.size) (.inl (hiV_ob _ _)) (Nat.le_refl _) (fun k _ h => hNd.wk k h)) (inF_step (n := w.heap.size) (.inl (hiV_ob _ _)) (Nat.le_refl _) (fun k _ h => hNd.wc k h)) (fun j hj h9 => h9.elim (fun h8 => hin215 j hj h8) (fun h8 => (fun j _ q => hNd.wg j (hGs j q)) j hj h8))) (nodeW_lt ht222 (fun j h9 => (ht223 j ((hiV_ob _ _).symm.trans h9)).2) (fun j h9 => (ht224 j ((hiV_ob _ _).symm.trans h9)).2) (fun j h9 => h9.elim (fun h8 => (ht226 j h8).2) (fun h8 => (ht225 j h8).2)))⟩

end Go.Proofs.Ytcpfdfejojghbaa
