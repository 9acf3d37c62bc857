/- What trees have, as rising lists: putting, dropping, looking up. -/
import Derived.Test.YtcpfdfejojghbaaProg
import Derived.KernelRfl
import Derived.Test.YtcpfdfejojghbaaB6
namespace Go.Bt
section
variable {V : Type} {h : Nat} {k x y : Ky} {v : V} {o : TO V} {l : List (Ky × V)}
abbrev ks1 (l : List (Ky × V)) : List Ky := l.map Prod.fst
abbrev SortedL (l : List (Ky × V)) : Prop := Sorted (ks1 l)
def ltL (x : Ky) (l : List (Ky × V)) : List (Ky × V) := l.filter fun p => decide (p.1 < x)
def gtL (x : Ky) (l : List (Ky × V)) : List (Ky × V) := l.filter fun p => decide (x < p.1)
def putL (k : Ky) (v : V) (l : List (Ky × V)) : List (Ky × V) := ltL k l ++ (k, v) :: gtL k l
def getL (k : Ky) (l : List (Ky × V)) : Option V := (l.find? fun p => decide (p.1 = k)).map Prod.snd
theorem mem_ltL {p : Ky × V} : p ∈ ltL k l ↔ p ∈ l ∧ p.1 < k := by simp [ltL]
theorem mem_gtL {p : Ky × V} : p ∈ gtL k l ↔ p ∈ l ∧ k < p.1 := by simp [gtL]
theorem sub_sorted (P : Ky × V → Bool) (H : SortedL l) : SortedL (l.filter P) := List.Pairwise.sublist (List.Sublist.map _ List.filter_sublist) H
theorem sorted_app {a b : List (Ky × V)} : SortedL (a ++ b) ↔ SortedL a ∧ SortedL b ∧ ∀ p ∈ a, ∀ q ∈ b, p.1 < q.1 := by
  show List.Pairwise _ ((a ++ b).map Prod.fst) ↔ _
  rw [List.map_append, List.pairwise_append]
  refine and_congr Iff.rfl (and_congr Iff.rfl ⟨fun H p hp q hq => H _ (List.mem_map.2 ⟨p, hp, rfl⟩) _ (List.mem_map.2 ⟨q, hq, rfl⟩), fun H a ha b hb => ?_⟩)
  obtain ⟨p, hp, rfl⟩ := List.mem_map.1 ha
  obtain ⟨q, hq, rfl⟩ := List.mem_map.1 hb
  exact H p hp q hq
theorem sorted_cons {p : Ky × V} {b : List (Ky × V)} : SortedL (p :: b) ↔ (∀ q ∈ b, p.1 < q.1) ∧ SortedL b := by
  show List.Pairwise _ (p.1 :: b.map Prod.fst) ↔ _
  rw [List.pairwise_cons]
  refine and_congr ⟨fun H q hq => H _ (List.mem_map.2 ⟨q, hq, rfl⟩), fun H a ha => ?_⟩ Iff.rfl
  obtain ⟨q, hq, rfl⟩ := List.mem_map.1 ha
  exact H q hq
theorem putL_sorted (H : SortedL l) : SortedL (putL k v l) := by
  refine sorted_app.2 ⟨sub_sorted _ H, sorted_cons.2 ⟨fun q hq => (mem_gtL.1 hq).2, sub_sorted _ H⟩, fun p hp q hq => ?_⟩
  have h1 := (mem_ltL.1 hp).2
  rcases List.mem_cons.1 hq with rfl | hq
  · exact h1
  · have := (mem_gtL.1 hq).2; grind
theorem mem_putL {p : Ky × V} : p ∈ putL k v l ↔ p = (k, v) ∨ (p.1 ≠ k ∧ p ∈ l) := by
  unfold putL
  rw [List.mem_append, List.mem_cons, mem_ltL, mem_gtL]
  grind
theorem put_toL (H : OkO o) : toLO (putO k v o).2 = putL k v (toLO o) := by
  obtain ⟨a, _, b⟩ := putO_ok (k := k) (x := v) H
  exact sorted_ext (toLO_sorted a) (putL_sorted (toLO_sorted H)) fun p => (b p).trans mem_putL.symm
theorem has_iff : (ks1 l).contains k = true ↔ ∃ p ∈ l, p.1 = k := by rw [List.contains_iff_mem, List.mem_map]
theorem put_was (H : OkO o) : (putO k v o).1 = (ks1 (toLO o)).contains k := Bool.eq_iff_iff.2 ((putO_ok H).2.1.trans has_iff.symm)
/-! as positions -/
theorem pos_cons {ks : List Ky} {y : Ky} : pos (y :: ks) x = pos ks x + if y < x then 1 else 0 := by
  unfold pos; rw [List.countP_cons]; simp
theorem pos_zero {ks : List Ky} (h : ∀ y ∈ ks, ¬ y < x) : pos ks x = 0 := by
  unfold pos; rw [List.countP_eq_zero]; intro a ha; simpa using h a ha
theorem ltL_take : ∀ {l : List (Ky × V)}, SortedL l → ltL x l = l.take (pos (ks1 l) x)
  | [], _ => rfl
  | p :: l, H => by
    obtain ⟨h1, h2⟩ := sorted_cons.1 H
    have ih := ltL_take h2
    have e : pos (ks1 (p :: l)) x = pos (ks1 l) x + if p.1 < x then 1 else 0 := pos_cons
    rw [e]
    by_cases hp : p.1 < x
    · rw [if_pos hp, List.take_succ_cons, ← ih]; simp [ltL, hp]
    · rw [if_neg hp]
      have z : pos (ks1 l) x = 0 := pos_zero fun y hy => by
        obtain ⟨q, hq, rfl⟩ := List.mem_map.1 hy
        have := h1 q hq; grind
      rw [z] at ih ⊢
      show ltL x (p :: l) = []
      have : ltL x (p :: l) = ltL x l := by simp [ltL, hp]
      rw [this, ih]; rfl
theorem gtL_drop : ∀ {l : List (Ky × V)}, SortedL l → gtL x l = l.drop (pos (ks1 l) x + if (ks1 l).contains x then 1 else 0)
  | [], _ => rfl
  | p :: l, H => by
    obtain ⟨h1, h2⟩ := sorted_cons.1 H
    have ih := gtL_drop h2
    have e : pos (ks1 (p :: l)) x = pos (ks1 l) x + if p.1 < x then 1 else 0 := pos_cons
    have ec : (ks1 (p :: l)).contains x = (x == p.1 || (ks1 l).contains x) := rfl
    rw [e, ec]
    by_cases hp : p.1 < x
    · rw [if_pos hp]
      have e1 : (x == p.1) = false := by simp only [beq_eq_false_iff_ne]; intro e; grind
      rw [e1, Bool.false_or, show ∀ a b : Nat, a + 1 + b = a + b + 1 by intro a b; omega, List.drop_succ_cons, ← ih]
      have : ¬ x < p.1 := by grind
      simp [gtL, this]
    · rw [if_neg hp]
      have z : pos (ks1 l) x = 0 := pos_zero fun y hy => by
        obtain ⟨q, hq, rfl⟩ := List.mem_map.1 hy
        have := h1 q hq; grind
      have c : (ks1 l).contains x = false := by
        rw [Bool.eq_false_iff]; intro h
        obtain ⟨q, hq, rfl⟩ := has_iff.1 h
        exact hp (h1 q hq)
      have a : gtL x l = l := by rw [ih, z, c]; rfl
      rw [z, c, Bool.or_false]
      by_cases hx : x = p.1
      · subst hx
        have : ¬ p.1 < p.1 := by grind
        simp only [beq_self_eq_true, if_true, Nat.zero_add, List.drop_succ_cons, List.drop_zero]
        rw [← a]; simp [gtL, this]
      · have e1 : (x == p.1) = false := by simpa using hx
        rw [e1]
        have : x < p.1 := by grind
        show gtL x (p :: l) = p :: l
        have e2 : gtL x (p :: l) = p :: gtL x l := by simp [gtL, this]
        rw [e2, a]
theorem putL_pos (H : SortedL l) : putL k v l = l.take (pos (ks1 l) k) ++ (k, v) :: l.drop (pos (ks1 l) k + if (ks1 l).contains k then 1 else 0) := by
  unfold putL; rw [ltL_take H, gtL_drop H]
theorem putL_len (H : SortedL l) : (putL k v l).length = l.length + if (ks1 l).contains k then 0 else 1 := by
  rw [putL_pos H, List.length_append, List.length_cons, List.length_take, List.length_drop]
  have h1 := pos_le (ks1 l) k
  have h2 : (ks1 l).length = l.length := List.length_map ..
  by_cases hc : (ks1 l).contains k = true
  · obtain ⟨h, _⟩ := pos_hit (show Sorted (ks1 l) from H) (List.contains_iff_mem.1 hc)
    rw [if_pos hc, if_pos hc]; omega
  · rw [if_neg hc, if_neg hc]; omega
theorem getL_hit (H : SortedL l) {q : Ky × V} {r : List (Ky × V)} (h : (geL x l).take 1 = q :: r) (e : q.1 = x) : getL x l = some q.2 := by
  have hq : q ∈ geL x l := List.mem_of_mem_take (h ▸ List.mem_cons_self ..)
  have hq : q ∈ l := (List.mem_filter.1 hq).1
  have hf : (l.find? fun p => decide (p.1 = x)).isSome = true := by rw [List.find?_isSome]; exact ⟨q, hq, by simpa using e⟩
  obtain ⟨p, hp⟩ := Option.isSome_iff_exists.1 hf
  have h1 := List.mem_of_find?_eq_some hp
  have h2 : p.1 = x := by simpa using List.find?_some hp
  have : p = q := mem_key (show Sorted (l.map Prod.fst) from H) h1 hq (h2.trans e.symm)
  unfold getL; rw [hp, this]; rfl
theorem getL_none (h : ∀ p ∈ l, p.1 ≠ x) : getL x l = none := by
  unfold getL
  rw [List.find?_eq_none.2 fun p hp => by simpa using h p hp]; rfl
theorem getL_miss0 (h : (geL x l).take 1 = []) : getL x l = none := getL_none fun p hp e => by
  have h0 : geL x l = [] := by cases hg : geL x l with | nil => rfl | cons a t => rw [hg] at h; cases h
  have : p ∈ geL x l := by unfold geL; rw [List.mem_filter]; exact ⟨hp, by subst e; simp⟩
  rw [h0] at this; cases this
theorem getL_miss1 (H : SortedL l) {q : Ky × V} {r : List (Ky × V)} (h : (geL x l).take 1 = q :: r) (e : q.1 ≠ x) : getL x l = none := getL_none fun p hp e2 => by
  have hs := sub_sorted (fun p : Ky × V => decide (x ≤ p.1)) H
  have hg : ∃ t, geL x l = q :: t := by cases hg : geL x l with | nil => rw [hg] at h; cases h | cons a t => rw [hg, List.take_succ_cons] at h; injection h with h1 h2; exact ⟨t, by rw [h1]⟩
  obtain ⟨t, ht⟩ := hg
  have hp' : p ∈ geL x l := by unfold geL; rw [List.mem_filter]; exact ⟨hp, by subst e2; simp⟩
  have hq : x ≤ q.1 := by
    have : q ∈ geL x l := ht ▸ List.mem_cons_self ..
    simpa using (List.mem_filter.1 this).2
  have hs' : SortedL (q :: t) := ht ▸ hs
  rw [ht] at hp'
  rcases List.mem_cons.1 hp' with rfl | hp'
  · exact e e2
  · have := (sorted_cons.1 hs').1 p hp'; grind
theorem getL_some (H : SortedL l) {p : Ky × V} (hp : p ∈ l) (e : p.1 = x) : getL x l = some p.2 := by
  have hf : (l.find? fun p => decide (p.1 = x)).isSome = true := by rw [List.find?_isSome]; exact ⟨p, hp, by simpa using e⟩
  obtain ⟨q, hq⟩ := Option.isSome_iff_exists.1 hf
  have h1 := List.mem_of_find?_eq_some hq
  have h2 : q.1 = x := by simpa using List.find?_some hq
  have : q = p := mem_key (show Sorted (l.map Prod.fst) from H) h1 hp (h2.trans e.symm)
  unfold getL; rw [hq, this]; rfl
end
end Go.Bt
namespace Go.Gx
open Go.Bt Go.RowKit
section
variable {V : Type} {κ : Kd V} {w w' : World} {F H : Nat → Prop} {base tT p n : Nat} {M : List (Ky × V)} {o : TO V}
def TopL (κ : Kd V) (tT base : Nat) (w : World) (p : Nat) (M : List (Ky × V)) (F : Nat → Prop) : Prop := ∃ o, TopR κ tT base w p o F ∧ toLO o = M
theorem TopL.lt (T : TopL κ tT base w p M F) : ∀ k, F k → base ≤ k ∧ k < w.heap.size := by obtain ⟨o, h, _⟩ := T; exact h.lt
theorem TopL.keepG (T : TopL κ tT base w p M F) (E : Gr w w' H) (hd : Dj F H) : TopL κ tT base w' p M F := by obtain ⟨o, h, e⟩ := T; exact ⟨o, h.keepG E hd, e⟩
theorem TopL.sorted (T : TopL κ tT base w p M F) : SortedL M := by obtain ⟨o, h, rfl⟩ := T; exact toLO_sorted h.2.2.1
end
end Go.Gx

/- What trees' levels are like, plainly. -/
namespace Go.Bt
section
variable {V : Type} {h : Nat} {o : TO V}
def wantL (L : List (List Nat)) : Nat → Nat
  | 0 => 1
  | i + 1 => ((L.getD i []).map (· + 1)).sum
def Shp : Nat → Nat → List (List Nat) → Prop
  | _, _, [] => True
  | low, want, r :: rest => r.length = want ∧ (∀ n ∈ r, low ≤ n ∧ n ≤ 6) ∧ Shp 3 ((r.map (· + 1)).sum) rest
theorem Shp.at : ∀ {L : List (List Nat)} {low want i : Nat}, Shp low want L → i < L.length → (L.getD i []).length = (if i = 0 then want else wantL L i) ∧ ∀ n ∈ L.getD i [], (if i = 0 then low else 3) ≤ n ∧ n ≤ 6
  | [], _, _, _, _, hi => absurd hi (Nat.not_lt_zero _)
  | r :: rest, low, want, 0, H, _ => by obtain ⟨h1, h2, _⟩ := H; exact ⟨h1, h2⟩
  | r :: rest, low, want, i + 1, H, hi => by
    obtain ⟨h1, h2, h3⟩ := H
    have := Shp.at h3 (i := i) (by simpa using hi)
    rw [List.getD_cons_succ]
    refine ⟨?_, fun n hn => ?_⟩
    · rw [this.1, if_neg (Nat.succ_ne_zero i)]
      cases i with
      | zero => rfl
      | succ i => rw [if_neg (Nat.succ_ne_zero i)]; rfl
    · have q := this.2 n hn
      rw [if_neg (Nat.succ_ne_zero i)]
      refine ⟨?_, q.2⟩
      have := q.1
      split at this <;> exact this
theorem kids_sum {now : List (Tr V (h + 1))} (H : ∀ t ∈ now, t.2.length = t.1.length + 1) : (now.flatMap fun t => t.2).length = ((now.map (szT (h + 1))).map (· + 1)).sum := by
  induction now with
  | nil => rfl
  | cons t r ih =>
    rw [List.flatMap_cons, List.length_append, ih (fun t ht => H t (List.mem_cons_of_mem _ ht)), H t (List.mem_cons_self ..)]
    simp [szT]
theorem lvl_shp : ∀ {h : Nat} {now : List (Tr V h)} {low : Nat}, (∀ t ∈ now, Ok h t ∧ low ≤ szT h t ∧ szT h t ≤ 6) → Shp low now.length (lvl h now)
  | 0, now, low, H => by
    refine ⟨List.length_map .., fun n hn => ?_, trivial⟩
    obtain ⟨t, ht, rfl⟩ := List.mem_map.1 hn
    exact (H t ht).2
  | h + 1, now, low, H => by
    refine ⟨List.length_map .., fun n hn => ?_, ?_⟩
    · obtain ⟨t, ht, rfl⟩ := List.mem_map.1 hn
      exact (H t ht).2
    · have e := kids_sum (h := h) (now := now) fun t ht => (ok_node.1 (H t ht).1).1.1
      rw [← e]
      refine lvl_shp fun c hc => ?_
      obtain ⟨t, ht, hc⟩ := List.mem_flatMap.1 hc
      obtain ⟨N, hs⟩ := ok_node.1 (H t ht).1
      obtain ⟨i, hi, rfl⟩ := List.getElem_of_mem hc
      exact ⟨(N.2.2 i _ (List.getElem?_eq_getElem hi)).1, hs _ hc⟩
theorem levels_shp (H : OkO o) : Shp 1 1 (levels o) := by
  match o, H with
  | none, _ => trivial
  | some ⟨h, t⟩, H => exact lvl_shp (now := [t]) fun c hc => by rw [List.mem_singleton.1 hc]; exact ⟨H.1, H.2.1, H.2.2⟩
theorem levels_at (H : OkO o) {i : Nat} (hi : i < (levels o).length) : ((levels o).getD i []).length = wantL (levels o) i ∧ ∀ n ∈ (levels o).getD i [], 1 ≤ n ∧ n ≤ 6 ∧ (0 < i → 3 ≤ n) := by
  have a := (levels_shp H).at hi
  refine ⟨?_, fun n hn => ?_⟩
  · rw [a.1]; split
    · rename_i e; subst e; rfl
    · rfl
  · have q := a.2 n hn
    split at q
    · exact ⟨q.1, q.2, fun h => by omega⟩
    · exact ⟨by omega, q.2, fun _ => q.1⟩
theorem levels_none (H : OkO o) : (levels o).length = 0 ↔ (toLO o).length = 0 := by
  match o, H with
  | none, _ => exact ⟨fun _ => rfl, fun _ => rfl⟩
  | some ⟨h, t⟩, H =>
    have h1 : (levels (some ⟨h, t⟩ : TO V)).length = h + 1 := lvl_len
    have h2 := Go.Gx.toL_pos H.1 H.2.1
    exact ⟨fun q => by omega, fun q => by have : (toL h t).length = 0 := q; omega⟩
/-! how deep a tree is -/
theorem sum_low {r : List Nat} {m : Nat} (H : ∀ n ∈ r, m ≤ n) : m * r.length ≤ r.sum := by
  induction r with
  | nil => simp
  | cons a t ih => have := ih (fun n hn => H n (List.mem_cons_of_mem _ hn)); have := H a (List.mem_cons_self ..); rw [List.length_cons, List.sum_cons, Nat.mul_add]; omega
theorem sum_suc {r : List Nat} : (r.map (· + 1)).sum = r.sum + r.length := by
  induction r with
  | nil => rfl
  | cons a t ih => simp only [List.map_cons, List.sum_cons, List.length_cons, ih]; omega
theorem want_grows (H : OkO o) {i : Nat} (hi : i + 1 < (levels o).length) : ((levels o).getD i []).length * (if i = 0 then 2 else 4) ≤ ((levels o).getD (i + 1) []).length := by
  obtain ⟨_, a⟩ := levels_at H (i := i) (by omega)
  obtain ⟨b, _⟩ := levels_at H hi
  rw [b]
  show _ ≤ (((levels o).getD i []).map (· + 1)).sum
  rw [sum_suc]
  split
  · have := sum_low (m := 1) fun n hn => (a n hn).1; omega
  · have := sum_low (m := 3) fun n hn => (a n hn).2.2 (by omega); omega
theorem cons9 {α : Type} [Inhabited α] {l : List α} (h : 0 < l.length) : l = l.getD 0 default :: l.tail := by
  match l, h with
  | a :: t, _ => rfl
structure LevOk (L : List (List Nat)) (n : Nat) : Prop where
  zero : L.length = 0 ↔ n = 0
  at_ : ∀ i, i < L.length → (L.getD i []).length = wantL L i ∧ ∀ m ∈ L.getD i [], 1 ≤ m ∧ m ≤ 6 ∧ (0 < i → 3 ≤ m)
  grows : ∀ i, i + 1 < L.length → (L.getD i []).length * (if i = 0 then 2 else 4) ≤ (L.getD (i + 1) []).length
  sum : (L.getD (L.length - 1) []).sum = n
  le : L.length ≤ n
theorem lev_ok (H : OkO o) : LevOk (levels o) (toLO o).length := ⟨levels_none H, fun _ hi => levels_at H hi, fun _ hi => want_grows H hi, Go.Gx.levels_sum, Go.Gx.levels_le H⟩
end
end Go.Bt

/- Walks, written by a program: what each function of the translation hands back. -/
namespace Go.Proofs.Ytcpfdfejojghbaa
open Go.Gx Go.RowKit
attribute [local irreducible] wpList wpStill Code.wp Calls
open Go.Bt
theorem newLI {w : World} : Ret Try.prog 22 #[] w (fun v' w' => Below w.heap.size w w' ∧ ∃ p F, v' = ptr p 0 ∧ TopL kI 71 w.heap.size w' p [] F) := (newI).mono fun v' w' h => by
  obtain ⟨E, p, e, T⟩ := h
  exact ⟨E, p, _, e, none, T, rfl⟩
theorem putLsI {M : List (Ky × (Int))} {k : List UInt8} {xv : Value} {x : Int} {F : Nat → Prop} {p base L B : Nat} {w : World} (hT : TopL kI 71 base w p M F) (hb : base ≤ w.heap.size) (hk : RdC w L B 1 xv k.length (k.map u8v)) (hB : B ≤ w.heap.size) (hap : ∀ j, F j → j < L ∨ B ≤ j) (hkn : k.length ≤ 1000000000) :
    Ret Try.prog 23 #[ptr p 0, xv, (Value.int .i64 x)] w (fun v' w' => Gr w w' F ∧ v' = .bool ((ks1 M).contains k) ∧ ∃ F', TopL kI 71 base w' p (putL k x M) F' ∧ NewF w.heap.size F F') := by
  obtain ⟨o, T, rfl⟩ := hT
  refine (putTopI T hb hk hB hap hkn).mono fun v' w' h => ?_
  obtain ⟨E, e, F', T', N⟩ := h
  exact ⟨E, e.trans (congrArg Value.bool (put_was T.2.2.1)), F', ⟨_, T', put_toL T.2.2.1⟩, N⟩
theorem scanLsI {M : List (Ky × (Int))} {F : Nat → Prop} {x : List UInt8} {xv : Value} {p base : Nat} {m : Int} {w : World} (hT : TopL kI 71 base w p M F) (hkl : ∀ q ∈ M, q.1.length ≤ 1000000000) (hxr : RdC w 0 w.heap.size 1 xv x.length (x.map u8v)) (hm : m ≤ 9223372036854775807) (hDM : M.length ≤ 100000) : Ret Try.prog 24 #[ptr p 0, xv, .int .i64 m] w (fun v' w' => Below w.heap.size w w' ∧ ∃ D2 : List (DP (Int)), Own w' w.heap.size 51 2 v' D2.length (D2.flatMap cI) ∧ (∀ x9 ∈ D2.map pk, Own w' w.heap.size 5 1 x9.1 x9.2.length (x9.2.map u8v)) ∧ D2.map Prod.snd = (geL x M).take m.toNat ∧ (D2.map pk).Pairwise (fun a b => Dj (Bl a.1) (Bl b.1))) := by
  obtain ⟨o, T, rfl⟩ := hT
  exact scanTopI T hkl hxr hm hDM
theorem lenLsI {M : List (Ky × (Int))} {F : Nat → Prop} {p base : Nat} {w : World} (hT : TopL kI 71 base w p M F) (hDM : M.length ≤ 100000) : Ret Try.prog 25 #[ptr p 0] w (fun v' w' => Below w.heap.size w w' ∧ v' = .int .i64 (M.length : Int)) := by
  obtain ⟨o, T, rfl⟩ := hT
  exact lenTopI T hDM
theorem levLsI {M : List (Ky × (Int))} {F : Nat → Prop} {p base : Nat} {w : World} (hT : TopL kI 71 base w p M F) (hDM : M.length ≤ 100000) : Ret Try.prog 33 #[ptr p 0] w (fun v' w' => Below w.heap.size w w' ∧ ∃ (LL : List (Value × List Int)) (LV : List (List Nat)), Own w' w.heap.size 30 1 v' LL.length (LL.flatMap (fun x9 => [x9.1])) ∧ (∀ x9 ∈ LL, Own w' w.heap.size 3 1 x9.1 x9.2.length (x9.2.map (Value.int .i64))) ∧ LL.map Prod.snd = LV.map (fun l => l.map Int.ofNat) ∧ LevOk LV M.length) := by
  obtain ⟨o, T, rfl⟩ := hT
  refine (levelsTopI T hDM).mono fun v' w' h => ?_
  obtain ⟨E, LL, h1, h2, h3⟩ := h
  exact ⟨E, LL, _, h1, h2, h3, lev_ok T.2.2.1⟩
theorem newLS {w : World} : Ret Try.prog 12 #[] w (fun v' w' => Below w.heap.size w w' ∧ ∃ p F, v' = ptr p 0 ∧ TopL kS 88 w.heap.size w' p [] F) := (newS).mono fun v' w' h => by
  obtain ⟨E, p, e, T⟩ := h
  exact ⟨E, p, _, e, none, T, rfl⟩
theorem putLsS {M : List (Ky × (List UInt8))} {k : List UInt8} {xv : Value} {x : List UInt8} {F : Nat → Prop} {p base L B : Nat} {w : World} (hT : TopL kS 88 base w p M F) (hb : base ≤ w.heap.size) (hk : RdC w L B 1 xv k.length (k.map u8v)) (hB : B ≤ w.heap.size) (hap : ∀ j, F j → j < L ∨ B ≤ j) (hkn : k.length ≤ 1000000000) :
    Ret Try.prog 13 #[ptr p 0, xv, (Value.string (bs x))] w (fun v' w' => Gr w w' F ∧ v' = .bool ((ks1 M).contains k) ∧ ∃ F', TopL kS 88 base w' p (putL k x M) F' ∧ NewF w.heap.size F F') := by
  obtain ⟨o, T, rfl⟩ := hT
  refine (putTopS T hb hk hB hap hkn).mono fun v' w' h => ?_
  obtain ⟨E, e, F', T', N⟩ := h
  exact ⟨E, e.trans (congrArg Value.bool (put_was T.2.2.1)), F', ⟨_, T', put_toL T.2.2.1⟩, N⟩
theorem scanLsS {M : List (Ky × (List UInt8))} {F : Nat → Prop} {x : List UInt8} {xv : Value} {p base : Nat} {m : Int} {w : World} (hT : TopL kS 88 base w p M F) (hkl : ∀ q ∈ M, q.1.length ≤ 1000000000) (hxr : RdC w 0 w.heap.size 1 xv x.length (x.map u8v)) (hm : m ≤ 9223372036854775807) (hDM : M.length ≤ 100000) : Ret Try.prog 46 #[ptr p 0, xv, .int .i64 m] w (fun v' w' => Below w.heap.size w w' ∧ ∃ D2 : List (DP (List UInt8)), Own w' w.heap.size 98 2 v' D2.length (D2.flatMap cS) ∧ (∀ x9 ∈ D2.map pk, Own w' w.heap.size 5 1 x9.1 x9.2.length (x9.2.map u8v)) ∧ D2.map Prod.snd = (geL x M).take m.toNat ∧ (D2.map pk).Pairwise (fun a b => Dj (Bl a.1) (Bl b.1))) := by
  obtain ⟨o, T, rfl⟩ := hT
  exact scanTopS T hkl hxr hm hDM
theorem lenLsS {M : List (Ky × (List UInt8))} {F : Nat → Prop} {p base : Nat} {w : World} (hT : TopL kS 88 base w p M F) (hDM : M.length ≤ 100000) : Ret Try.prog 15 #[ptr p 0] w (fun v' w' => Below w.heap.size w w' ∧ v' = .int .i64 (M.length : Int)) := by
  obtain ⟨o, T, rfl⟩ := hT
  exact lenTopS T hDM
theorem newLA {w : World} : Ret Try.prog 16 #[] w (fun v' w' => Below w.heap.size w w' ∧ ∃ p F, v' = ptr p 0 ∧ TopL kA 101 w.heap.size w' p [] F) := (newA).mono fun v' w' h => by
  obtain ⟨E, p, e, T⟩ := h
  exact ⟨E, p, _, e, none, T, rfl⟩
theorem putLsA {M : List (Ky × (Int × Int))} {k : List UInt8} {xv : Value} {x : Int × Int} {F : Nat → Prop} {p base L B : Nat} {w : World} (hT : TopL kA 101 base w p M F) (hb : base ≤ w.heap.size) (hk : RdC w L B 1 xv k.length (k.map u8v)) (hB : B ≤ w.heap.size) (hap : ∀ j, F j → j < L ∨ B ≤ j) (hkn : k.length ≤ 1000000000) :
    Ret Try.prog 17 #[ptr p 0, xv, (Value.agg #[(Value.int .i64 x.1), (Value.int .i64 x.2)])] w (fun v' w' => Gr w w' F ∧ v' = .bool ((ks1 M).contains k) ∧ ∃ F', TopL kA 101 base w' p (putL k x M) F' ∧ NewF w.heap.size F F') := by
  obtain ⟨o, T, rfl⟩ := hT
  refine (putTopA T hb hk hB hap hkn).mono fun v' w' h => ?_
  obtain ⟨E, e, F', T', N⟩ := h
  exact ⟨E, e.trans (congrArg Value.bool (put_was T.2.2.1)), F', ⟨_, T', put_toL T.2.2.1⟩, N⟩
theorem scanLsA {M : List (Ky × (Int × Int))} {F : Nat → Prop} {x : List UInt8} {xv : Value} {p base : Nat} {m : Int} {w : World} (hT : TopL kA 101 base w p M F) (hkl : ∀ q ∈ M, q.1.length ≤ 1000000000) (hxr : RdC w 0 w.heap.size 1 xv x.length (x.map u8v)) (hm : m ≤ 9223372036854775807) (hDM : M.length ≤ 100000) : Ret Try.prog 44 #[ptr p 0, xv, .int .i64 m] w (fun v' w' => Below w.heap.size w w' ∧ ∃ D2 : List (DP (Int × Int)), Own w' w.heap.size 109 3 v' D2.length (D2.flatMap cA) ∧ (∀ x9 ∈ D2.map pk, Own w' w.heap.size 5 1 x9.1 x9.2.length (x9.2.map u8v)) ∧ D2.map Prod.snd = (geL x M).take m.toNat ∧ (D2.map pk).Pairwise (fun a b => Dj (Bl a.1) (Bl b.1))) := by
  obtain ⟨o, T, rfl⟩ := hT
  exact scanTopA T hkl hxr hm hDM
theorem lenLsA {M : List (Ky × (Int × Int))} {F : Nat → Prop} {p base : Nat} {w : World} (hT : TopL kA 101 base w p M F) (hDM : M.length ≤ 100000) : Ret Try.prog 21 #[ptr p 0] w (fun v' w' => Below w.heap.size w w' ∧ v' = .int .i64 (M.length : Int)) := by
  obtain ⟨o, T, rfl⟩ := hT
  exact lenTopA T hDM
end Go.Proofs.Ytcpfdfejojghbaa

/- Walks, written by a program: what each function of the translation hands back. -/
namespace Go.Proofs.Ytcpfdfejojghbaa
open Go.Gx Go.RowKit
attribute [local irreducible] wpList wpStill Code.wp Calls
open Go.Bt
theorem getLsI {M : List (Ky × (Int))} {F : Nat → Prop} {x : List UInt8} {xv : Value} {p base : Nat} {w : World} (hT : TopL kI 71 base w p M F) (hkl : ∀ q ∈ M, q.1.length ≤ 1000000000) (hxr : RdC w 0 w.heap.size 1 xv x.length (x.map u8v)) (hDM : M.length ≤ 100000) : Ret Try.prog 30 #[(ptr p 0), xv] w (fun v' w' => Below w.heap.size w w' ∧ v' = .tuple #[.int .i64 ((getL x M).getD 0), .bool (getL x M).isSome]) := by
 have hb := Below.refl w.heap.size w
 refine enter (N := 28) Try.func30 rfl rfl (by simp) fun a0 hN hd hA => ?_
 have s0 : a0.tmps.getD 0 undef = (ptr p 0) := hA 0 (by simp)
 have s1 : a0.tmps.getD 1 undef = xv := hA 1 (by simp)
 clear hA
 refine seq_any fun K4 hK4 => one_reg ?_
 refine op_assign rfl (op_assign rfl (reg_nil (hK4 _ _ (seq_any fun K5 hK5 => one_reg (op_assign rfl ?_)))))
 refine reg_nil (hK5 _ _ (seq_any fun K6 hK6 => one_reg (op_move (ev_base hN rfl s0) (op_move (ev_base hN rfl s1) (op_fn (vs := [(ptr p 0), xv, (Value.int .i64 1)]) ok24 ⟨(ev_hit hN rfl), ⟨(ev_hit hN rfl), ⟨rfl, trivial⟩⟩⟩ (scanLsI (m := 1) (x := x) hT hkl (hxr.mono (Nat.zero_le _) (by omega)) (by omega) hDM) ?_)))))
 rintro v7 w10 ⟨E11, D7, hO7, hks7, hE7, hpw7⟩
 have E11 := grown_of_below E11
 have z_w10 := E11.size
 have hT := hT.keepG (Gr.of0 E11 NoB) (fun _ _ h => h)
 have hxr := hxr.keep0 E11
 have hb := below_step0 hb E11 hb.size
 have hO7 := hO7.mono (base' := w.heap.size) (by omega)
 have hks7 : ∀ x9 ∈ (D7.map pk), Own w10 w.heap.size 5 1 x9.1 x9.2.length (x9.2.map u8v) := fun x9 h9 => (hks7 x9 h9).mono (by omega)
 refine op_assign (ev_hit hN rfl) ?_
 refine reg_nil (hK6 _ _ (seq_any fun K12 hK12 => seq_any fun K14 hK14 => one_reg (op_move (ev_hit hN rfl) (op_len_rd Try.underlying48 (ev_hit hN rfl) hO7.rdw ?_))))
 refine op_eql (ev_hit hN rfl) rfl (fun c13 => ?_) (fun c13 => ?_)
 · -- 13T
  refine op_move (ev_hit hN rfl) (g_false (j := 3) (dj := 14) (b := false) rfl rfl rfl (ev_hit hN rfl) rfl rfl ?_)
  refine g_false (j := 3) (dj := 14) (b := false) rfl rfl rfl (ev_hit hN rfl) rfl rfl ?_
  refine g_false (j := 3) (dj := 14) (b := false) rfl rfl rfl (ev_hit hN rfl) rfl rfl ?_
  refine g_false (j := 3) (dj := 14) (b := false) rfl rfl rfl (ev_hit hN rfl) rfl rfl ?_
  refine g_false (j := 3) (dj := 14) (b := false) rfl rfl rfl (ev_hit hN rfl) rfl rfl ?_
  refine g_false (j := 3) (dj := 14) (b := false) rfl rfl rfl (ev_hit hN rfl) rfl rfl ?_
  refine g_false (j := 3) (dj := 14) (b := false) rfl rfl rfl (ev_hit hN rfl) rfl rfl ?_
  refine op_pick_t (ev_hit hN rfl) rfl ?_
  refine reg_nil (hK14 _ _ (wp_cond_true (ev_hit hN rfl) ?_))
  refine seq_any fun K15 hK15 => one_reg (op_move (ev_hit hN rfl) (op_assign (ev_hit hN rfl) ?_))
  refine op_assign rfl (reg_nil (hK15 _ _ (wp_ret (then_ret ( ?_)))))
  refine ret2 rfl hd (ev_hit hN rfl) (ev_hit hN rfl) ⟨_, rfl, ?_⟩
  have hE1 : (geL x M).take 1 = D7.map Prod.snd := hE7.symm
  have hD0 : D7 = [] := List.eq_nil_of_length_eq_zero (by omega)
  rw [hD0] at hE1
  rw [getL_miss0 hE1]
  exact ⟨hb, rfl⟩
 · -- 13F
  refine op_move (ev_hit hN rfl) (g_true (j := 3) (dj := 14) (b := false) rfl rfl rfl (ev_hit hN rfl) ?_)
  refine op_move (ev_hit hN rfl) (g_true (j := 3) (dj := 14) (b := false) rfl rfl rfl (ev_hit hN rfl) ?_)
  refine op_index_rd slt48 (ev_hit hN rfl) hO7.rdw rfl (by omega) (by omega) ?_
  intro b16 o17 h0b16 h1b16 hc18
  refine g_true (j := 3) (dj := 14) (b := false) rfl rfl rfl (ev_hit hN rfl) ?_
  refine op_field fld51_0 (ev_hit hN rfl) (g_true (j := 3) (dj := 14) (b := false) rfl rfl rfl (ev_hit hN rfl) ?_)
  refine op_load1 (v := (D7.getD 0 default).1) one27 (ev_hit hN rfl) (hc18 0 ((D7.getD 0 default).1) (by decide) ((el_pI (i := 0) (by omega) (by first | omega | (simp only [List.length_drop, List.length_take]; omega))) 0 ((D7.getD 0 default).1) rfl)) (g_true (j := 3) (dj := 14) (b := false) rfl rfl rfl (ev_hit hN rfl) ?_)
  refine op_move (ev_base hN rfl s1) (g_true (j := 3) (dj := 14) (b := false) rfl rfl rfl (ev_hit hN rfl) ?_)
  refine op_fn (vs := [(D7.getD 0 default).1, xv]) ok45 ⟨(ev_hit hN rfl), ⟨(ev_hit hN rfl), trivial⟩⟩ (eqK ((show Own _ _ _ _ (D7.getD 0 default).1 (D7.getD 0 default).2.1.length ((D7.getD 0 default).2.1.map u8v) from hks7 (pk (D7.getD 0 default)) (List.mem_map.2 ⟨(D7.getD 0 default), (getD_mem (by first | omega | (simp only [List.length_drop, List.length_take]; omega))), rfl⟩)).rdw.mono (Nat.zero_le _) (by omega)) (hxr.mono (Nat.zero_le _) (by omega))) ?_
  rintro _ w19 ⟨E21, rfl⟩
  have E21 := grown_of_below E21
  have z_w19 := E21.size
  have hT := hT.keepG (Gr.of0 E21 NoB) (fun _ _ h => h)
  have hO7 := hO7.keep0 E21
  have hb := below_step0 hb E21 hb.size
  rcases Bool.eq_false_or_eq_true ((decide ((D7.getD 0 default).2.1 = x))) with c20 | c20
  · -- 20T
   rw [c20]
   refine g_true (j := 3) (dj := 14) (b := false) rfl rfl rfl (ev_hit hN rfl) ?_
   refine op_not (ev_hit hN rfl) ?_
   refine op_pick_f (ev_hit hN rfl) (ev_hit hN rfl) ?_
   refine reg_nil (hK14 _ _ (wp_cond_false (ev_hit hN rfl) ?_))
   refine wp_skip ?_
   refine hK12 _ _ (seq_any fun K22 hK22 => one_reg (op_move (ev_hit hN rfl) (op_index_rd slt48 (ev_hit hN rfl) hO7.rdw rfl (by omega) (by omega) ?_)))
   intro b23 o25 h0b23 h1b23 hc26
   refine op_field fld51_1 (ev_hit hN rfl) (op_load1 (v := (Value.int .i64 (D7.getD 0 default).2.2)) one3 (ev_hit hN rfl) (hc26 1 ((Value.int .i64 (D7.getD 0 default).2.2)) (by decide) ((el_pI (i := 0) (by omega) (by first | omega | (simp only [List.length_drop, List.length_take]; omega))) 1 ((Value.int .i64 (D7.getD 0 default).2.2)) rfl)) (op_assign (ev_hit hN rfl) ?_))
   refine op_assign rfl (reg_nil (hK22 _ _ (wp_ret ?_)))
   refine ret2 rfl hd (ev_hit hN rfl) (ev_hit hN rfl) ⟨_, rfl, ?_⟩
   have hE1 : (geL x M).take 1 = D7.map Prod.snd := hE7.symm
   rw [show D7 = D7.getD 0 default :: D7.tail from cons9 (by omega), List.map_cons] at hE1
   rw [getL_hit hT.sorted hE1 (of_decide_eq_true c20)]
   exact ⟨hb, rfl⟩
  · -- 20F
   rw [c20]
   refine g_true (j := 3) (dj := 14) (b := false) rfl rfl rfl (ev_hit hN rfl) ?_
   refine op_not (ev_hit hN rfl) ?_
   refine op_pick_f (ev_hit hN rfl) (ev_hit hN rfl) ?_
   refine reg_nil (hK14 _ _ (wp_cond_true (ev_hit hN rfl) ?_))
   refine seq_any fun K28 hK28 => one_reg (op_move (ev_hit hN rfl) (op_assign (ev_hit hN rfl) ?_))
   refine op_assign rfl (reg_nil (hK28 _ _ (wp_ret (then_ret ( ?_)))))
   refine ret2 rfl hd (ev_hit hN rfl) (ev_hit hN rfl) ⟨_, rfl, ?_⟩
   have hE1 : (geL x M).take 1 = D7.map Prod.snd := hE7.symm
   rw [show D7 = D7.getD 0 default :: D7.tail from cons9 (by omega), List.map_cons] at hE1
   rw [getL_miss1 hT.sorted hE1 (of_decide_eq_false c20)]
   exact ⟨hb, rfl⟩

theorem getLsS {M : List (Ky × (List UInt8))} {F : Nat → Prop} {x : List UInt8} {xv : Value} {p base : Nat} {w : World} (hT : TopL kS 88 base w p M F) (hkl : ∀ q ∈ M, q.1.length ≤ 1000000000) (hxr : RdC w 0 w.heap.size 1 xv x.length (x.map u8v)) (hDM : M.length ≤ 100000) : Ret Try.prog 19 #[(ptr p 0), xv] w (fun v' w' => Below w.heap.size w w' ∧ v' = .tuple #[.string (bs ((getL x M).getD [])), .bool (getL x M).isSome]) := by
 have hb := Below.refl w.heap.size w
 refine enter (N := 28) Try.func19 rfl rfl (by simp) fun a0 hN hd hA => ?_
 have s0 : a0.tmps.getD 0 undef = (ptr p 0) := hA 0 (by simp)
 have s1 : a0.tmps.getD 1 undef = xv := hA 1 (by simp)
 clear hA
 refine seq_any fun K3 hK3 => one_reg ?_
 refine op_assign rfl (op_assign rfl (reg_nil (hK3 _ _ (seq_any fun K4 hK4 => one_reg (op_assign rfl ?_)))))
 refine reg_nil (hK4 _ _ (seq_any fun K5 hK5 => one_reg (op_move (ev_base hN rfl s0) (op_move (ev_base hN rfl s1) (op_fn (vs := [(ptr p 0), xv, (Value.int .i64 1)]) ok46 ⟨(ev_hit hN rfl), ⟨(ev_hit hN rfl), ⟨rfl, trivial⟩⟩⟩ (scanLsS (m := 1) (x := x) hT hkl (hxr.mono (Nat.zero_le _) (by omega)) (by omega) hDM) ?_)))))
 rintro v6 w7 ⟨E10, D6, hO6, hks6, hE6, hpw6⟩
 have E10 := grown_of_below E10
 have z_w7 := E10.size
 have hT := hT.keepG (Gr.of0 E10 NoB) (fun _ _ h => h)
 have hxr := hxr.keep0 E10
 have hb := below_step0 hb E10 hb.size
 have hO6 := hO6.mono (base' := w.heap.size) (by omega)
 have hks6 : ∀ x9 ∈ (D6.map pk), Own w7 w.heap.size 5 1 x9.1 x9.2.length (x9.2.map u8v) := fun x9 h9 => (hks6 x9 h9).mono (by omega)
 refine op_assign (ev_hit hN rfl) ?_
 refine reg_nil (hK5 _ _ (seq_any fun K11 hK11 => seq_any fun K12 hK12 => one_reg (op_move (ev_hit hN rfl) (op_len_rd Try.underlying89 (ev_hit hN rfl) hO6.rdw ?_))))
 refine op_eql (ev_hit hN rfl) rfl (fun c13 => ?_) (fun c13 => ?_)
 · -- 13T
  refine op_move (ev_hit hN rfl) (g_false (j := 3) (dj := 14) (b := false) rfl rfl rfl (ev_hit hN rfl) rfl rfl ?_)
  refine g_false (j := 3) (dj := 14) (b := false) rfl rfl rfl (ev_hit hN rfl) rfl rfl ?_
  refine g_false (j := 3) (dj := 14) (b := false) rfl rfl rfl (ev_hit hN rfl) rfl rfl ?_
  refine g_false (j := 3) (dj := 14) (b := false) rfl rfl rfl (ev_hit hN rfl) rfl rfl ?_
  refine g_false (j := 3) (dj := 14) (b := false) rfl rfl rfl (ev_hit hN rfl) rfl rfl ?_
  refine g_false (j := 3) (dj := 14) (b := false) rfl rfl rfl (ev_hit hN rfl) rfl rfl ?_
  refine g_false (j := 3) (dj := 14) (b := false) rfl rfl rfl (ev_hit hN rfl) rfl rfl ?_
  refine op_pick_t (ev_hit hN rfl) rfl ?_
  refine reg_nil (hK12 _ _ (wp_cond_true (ev_hit hN rfl) ?_))
  refine seq_any fun K14 hK14 => one_reg (op_move (ev_hit hN rfl) (op_assign (ev_hit hN rfl) ?_))
  refine op_assign rfl (reg_nil (hK14 _ _ (wp_ret (then_ret ( ?_)))))
  refine ret2 rfl hd (ev_hit hN rfl) (ev_hit hN rfl) ⟨_, rfl, ?_⟩
  have hE1 : (geL x M).take 1 = D6.map Prod.snd := hE6.symm
  have hD0 : D6 = [] := List.eq_nil_of_length_eq_zero (by omega)
  rw [hD0] at hE1
  rw [getL_miss0 hE1]
  exact ⟨hb, rfl⟩
 · -- 13F
  refine op_move (ev_hit hN rfl) (g_true (j := 3) (dj := 14) (b := false) rfl rfl rfl (ev_hit hN rfl) ?_)
  refine op_move (ev_hit hN rfl) (g_true (j := 3) (dj := 14) (b := false) rfl rfl rfl (ev_hit hN rfl) ?_)
  refine op_index_rd slt89 (ev_hit hN rfl) hO6.rdw rfl (by omega) (by omega) ?_
  intro b15 o16 h0b15 h1b15 hc17
  refine g_true (j := 3) (dj := 14) (b := false) rfl rfl rfl (ev_hit hN rfl) ?_
  refine op_field fld98_0 (ev_hit hN rfl) (g_true (j := 3) (dj := 14) (b := false) rfl rfl rfl (ev_hit hN rfl) ?_)
  refine op_load1 (v := (D6.getD 0 default).1) one27 (ev_hit hN rfl) (hc17 0 ((D6.getD 0 default).1) (by decide) ((el_pS (i := 0) (by omega) (by first | omega | (simp only [List.length_drop, List.length_take]; omega))) 0 ((D6.getD 0 default).1) rfl)) (g_true (j := 3) (dj := 14) (b := false) rfl rfl rfl (ev_hit hN rfl) ?_)
  refine op_move (ev_base hN rfl s1) (g_true (j := 3) (dj := 14) (b := false) rfl rfl rfl (ev_hit hN rfl) ?_)
  refine op_fn (vs := [(D6.getD 0 default).1, xv]) ok45 ⟨(ev_hit hN rfl), ⟨(ev_hit hN rfl), trivial⟩⟩ (eqK ((show Own _ _ _ _ (D6.getD 0 default).1 (D6.getD 0 default).2.1.length ((D6.getD 0 default).2.1.map u8v) from hks6 (pk (D6.getD 0 default)) (List.mem_map.2 ⟨(D6.getD 0 default), (getD_mem (by first | omega | (simp only [List.length_drop, List.length_take]; omega))), rfl⟩)).rdw.mono (Nat.zero_le _) (by omega)) (hxr.mono (Nat.zero_le _) (by omega))) ?_
  rintro _ w18 ⟨E19, rfl⟩
  have E19 := grown_of_below E19
  have z_w18 := E19.size
  have hT := hT.keepG (Gr.of0 E19 NoB) (fun _ _ h => h)
  have hO6 := hO6.keep0 E19
  have hb := below_step0 hb E19 hb.size
  rcases Bool.eq_false_or_eq_true ((decide ((D6.getD 0 default).2.1 = x))) with c20 | c20
  · -- 20T
   rw [c20]
   refine g_true (j := 3) (dj := 14) (b := false) rfl rfl rfl (ev_hit hN rfl) ?_
   refine op_not (ev_hit hN rfl) ?_
   refine op_pick_f (ev_hit hN rfl) (ev_hit hN rfl) ?_
   refine reg_nil (hK12 _ _ (wp_cond_false (ev_hit hN rfl) ?_))
   refine wp_skip ?_
   refine hK11 _ _ (seq_any fun K21 hK21 => one_reg (op_move (ev_hit hN rfl) (op_index_rd slt89 (ev_hit hN rfl) hO6.rdw rfl (by omega) (by omega) ?_)))
   intro b22 o23 h0b22 h1b22 hc24
   refine op_field fld98_1 (ev_hit hN rfl) (op_load1 (v := (Value.string (bs (D6.getD 0 default).2.2))) one9 (ev_hit hN rfl) (hc24 1 ((Value.string (bs (D6.getD 0 default).2.2))) (by decide) ((el_pS (i := 0) (by omega) (by first | omega | (simp only [List.length_drop, List.length_take]; omega))) 1 ((Value.string (bs (D6.getD 0 default).2.2))) rfl)) (op_assign (ev_hit hN rfl) ?_))
   refine op_assign rfl (reg_nil (hK21 _ _ (wp_ret ?_)))
   refine ret2 rfl hd (ev_hit hN rfl) (ev_hit hN rfl) ⟨_, rfl, ?_⟩
   have hE1 : (geL x M).take 1 = D6.map Prod.snd := hE6.symm
   rw [show D6 = D6.getD 0 default :: D6.tail from cons9 (by omega), List.map_cons] at hE1
   rw [getL_hit hT.sorted hE1 (of_decide_eq_true c20)]
   exact ⟨hb, rfl⟩
  · -- 20F
   rw [c20]
   refine g_true (j := 3) (dj := 14) (b := false) rfl rfl rfl (ev_hit hN rfl) ?_
   refine op_not (ev_hit hN rfl) ?_
   refine op_pick_f (ev_hit hN rfl) (ev_hit hN rfl) ?_
   refine reg_nil (hK12 _ _ (wp_cond_true (ev_hit hN rfl) ?_))
   refine seq_any fun K25 hK25 => one_reg (op_move (ev_hit hN rfl) (op_assign (ev_hit hN rfl) ?_))
   refine op_assign rfl (reg_nil (hK25 _ _ (wp_ret (then_ret ( ?_)))))
   refine ret2 rfl hd (ev_hit hN rfl) (ev_hit hN rfl) ⟨_, rfl, ?_⟩
   have hE1 : (geL x M).take 1 = D6.map Prod.snd := hE6.symm
   rw [show D6 = D6.getD 0 default :: D6.tail from cons9 (by omega), List.map_cons] at hE1
   rw [getL_miss1 hT.sorted hE1 (of_decide_eq_false c20)]
   exact ⟨hb, rfl⟩

theorem getLsA {M : List (Ky × (Int × Int))} {F : Nat → Prop} {x : List UInt8} {xv : Value} {p base : Nat} {w : World} (hT : TopL kA 101 base w p M F) (hkl : ∀ q ∈ M, q.1.length ≤ 1000000000) (hxr : RdC w 0 w.heap.size 1 xv x.length (x.map u8v)) (hDM : M.length ≤ 100000) : Ret Try.prog 18 #[(ptr p 0), xv] w (fun v' w' => Below w.heap.size w w' ∧ v' = .tuple #[.agg #[.int .i64 ((getL x M).getD (0, 0)).1, .int .i64 ((getL x M).getD (0, 0)).2], .bool (getL x M).isSome]) := by
 have hb := Below.refl w.heap.size w
 refine enter (N := 28) Try.func18 rfl rfl (by simp) fun a0 hN hd hA => ?_
 have s0 : a0.tmps.getD 0 undef = (ptr p 0) := hA 0 (by simp)
 have s1 : a0.tmps.getD 1 undef = xv := hA 1 (by simp)
 clear hA
 refine seq_any fun K2 hK2 => one_reg (op_alloc (cs := [(Value.int .i64 0), (Value.int .i64 0)]) zero36 rfl ?_)
 intro w3 b4 lo_b4 hi_b4 hB6 E5
 have dj7 : ¬ F b4 := fun hf => by have := (hT.lt _ hf).2; omega
 have z_w3 := E5.size
 have hT := hT.keepG (Gr.of0 E5 NoB) (fun _ _ h => h)
 have hxr := hxr.keep0 E5
 have hb := below_step0 hb E5 hb.size
 refine op_assign rfl (reg_nil (hK2 _ _ (seq_any fun K10 hK10 => one_reg (op_alloc (cs := [(Value.int .i64 0), (Value.int .i64 0)]) zero36 rfl ?_))))
 intro w11 b12 lo_b12 hi_b12 hB15 E14
 have z_w11 := E14.size
 have hT := hT.keepG (Gr.of0 E14 NoB) (fun _ _ h => h)
 have hxr := hxr.keep0 E14
 have hB6 := hB6.keep0 E14
 have hb := below_step0 hb E14 hb.size
 refine reg_nil (hK10 _ _ (seq_any fun K16 hK16 => one_reg (op_move (ev_base hN rfl s0) (op_move (ev_base hN rfl s1) (op_fn (vs := [(ptr p 0), xv, (Value.int .i64 1)]) ok44 ⟨(ev_hit hN rfl), ⟨(ev_hit hN rfl), ⟨rfl, trivial⟩⟩⟩ (scanLsA (m := 1) (x := x) hT hkl (hxr.mono (Nat.zero_le _) (by omega)) (by omega) hDM) ?_)))))
 rintro v17 w18 ⟨E19, D17, hO17, hks17, hE17, hpw17⟩
 have E19 := grown_of_below E19
 have z_w18 := E19.size
 have hT := hT.keepG (Gr.of0 E19 NoB) (fun _ _ h => h)
 have hxr := hxr.keep0 E19
 have hB6 := hB6.keep0 E19
 have hB15 := hB15.keep0 E19
 have hb := below_step0 hb E19 hb.size
 have hO17 := hO17.mono (base' := w.heap.size) (by omega)
 have hks17 : ∀ x9 ∈ (D17.map pk), Own w18 w.heap.size 5 1 x9.1 x9.2.length (x9.2.map u8v) := fun x9 h9 => (hks17 x9 h9).mono (by omega)
 refine op_assign (ev_hit hN rfl) ?_
 refine reg_nil (hK16 _ _ (seq_any fun K21 hK21 => seq_any fun K22 hK22 => one_reg (op_move (ev_hit hN rfl) (op_len_rd Try.underlying102 (ev_hit hN rfl) hO17.rdw ?_))))
 refine op_eql (ev_hit hN rfl) rfl (fun c13 => ?_) (fun c13 => ?_)
 · -- 13T
  refine op_move (ev_hit hN rfl) (g_false (j := 3) (dj := 14) (b := false) rfl rfl rfl (ev_hit hN rfl) rfl rfl ?_)
  refine g_false (j := 3) (dj := 14) (b := false) rfl rfl rfl (ev_hit hN rfl) rfl rfl ?_
  refine g_false (j := 3) (dj := 14) (b := false) rfl rfl rfl (ev_hit hN rfl) rfl rfl ?_
  refine g_false (j := 3) (dj := 14) (b := false) rfl rfl rfl (ev_hit hN rfl) rfl rfl ?_
  refine g_false (j := 3) (dj := 14) (b := false) rfl rfl rfl (ev_hit hN rfl) rfl rfl ?_
  refine g_false (j := 3) (dj := 14) (b := false) rfl rfl rfl (ev_hit hN rfl) rfl rfl ?_
  refine g_false (j := 3) (dj := 14) (b := false) rfl rfl rfl (ev_hit hN rfl) rfl rfl ?_
  refine op_pick_t (ev_hit hN rfl) rfl ?_
  refine reg_nil (hK22 _ _ (wp_cond_true (ev_hit hN rfl) ?_))
  refine seq_any fun K23 hK23 => one_reg (op_loadA (cs := [(Value.int .i64 0), (Value.int .i64 0)]) agg36 rfl (ev_hit hN rfl) (fun j u hu => by rw [Nat.zero_add]; exact hB15.cell hu) ?_)
  refine op_store (vs := [(Value.int .i64 0), (Value.int .i64 0)]) (cs' := [(Value.int .i64 0), (Value.int .i64 0)]) size36 (ev_hit hN rfl) (ev_hit hN rfl) rfl rfl rfl hB6 (Nat.le_of_ble_eq_true rfl) rfl ?_
  intro w24 hB6 E25
  have z_w24 := E25.size
  have hb := below_step1 hb E25 hb.size (by omega)
  refine op_assign rfl (reg_nil (hK23 _ _ (wp_ret (then_ret ( ?_)))))
  refine retN (rs := [.cell 4 36, .tmp 5]) (vs := [(Value.agg #[(Value.int .i64 0), (Value.int .i64 0)]), (Value.bool false)]) rfl hd ⟨⟨_, (ev_hit hN rfl), run_loadA (cs := [(Value.int .i64 0), (Value.int .i64 0)]) agg36 rfl (fun j u hu => by rw [Nat.zero_add]; exact hB6.cell hu)⟩, ⟨(ev_hit hN rfl), trivial⟩⟩ rfl ⟨_, rfl, ?_⟩
  have hE1 : (geL x M).take 1 = D17.map Prod.snd := hE17.symm
  have hD0 : D17 = [] := List.eq_nil_of_length_eq_zero (by omega)
  rw [hD0] at hE1
  rw [getL_miss0 hE1]
  exact ⟨hb, rfl⟩
 · -- 13F
  refine op_move (ev_hit hN rfl) (g_true (j := 3) (dj := 14) (b := false) rfl rfl rfl (ev_hit hN rfl) ?_)
  refine op_move (ev_hit hN rfl) (g_true (j := 3) (dj := 14) (b := false) rfl rfl rfl (ev_hit hN rfl) ?_)
  refine op_index_rd slt102 (ev_hit hN rfl) hO17.rdw rfl (by omega) (by omega) ?_
  intro b26 o28 h0b26 h1b26 hc29
  refine g_true (j := 3) (dj := 14) (b := false) rfl rfl rfl (ev_hit hN rfl) ?_
  refine op_field fld109_0 (ev_hit hN rfl) (g_true (j := 3) (dj := 14) (b := false) rfl rfl rfl (ev_hit hN rfl) ?_)
  refine op_load1 (v := (D17.getD 0 default).1) one27 (ev_hit hN rfl) (hc29 0 ((D17.getD 0 default).1) (by decide) ((el_pA (i := 0) (by omega) (by first | omega | (simp only [List.length_drop, List.length_take]; omega))) 0 ((D17.getD 0 default).1) rfl)) (g_true (j := 3) (dj := 14) (b := false) rfl rfl rfl (ev_hit hN rfl) ?_)
  refine op_move (ev_base hN rfl s1) (g_true (j := 3) (dj := 14) (b := false) rfl rfl rfl (ev_hit hN rfl) ?_)
  refine op_fn (vs := [(D17.getD 0 default).1, xv]) ok45 ⟨(ev_hit hN rfl), ⟨(ev_hit hN rfl), trivial⟩⟩ (eqK ((show Own _ _ _ _ (D17.getD 0 default).1 (D17.getD 0 default).2.1.length ((D17.getD 0 default).2.1.map u8v) from hks17 (pk (D17.getD 0 default)) (List.mem_map.2 ⟨(D17.getD 0 default), (getD_mem (by first | omega | (simp only [List.length_drop, List.length_take]; omega))), rfl⟩)).rdw.mono (Nat.zero_le _) (by omega)) (hxr.mono (Nat.zero_le _) (by omega))) ?_
  rintro _ w30 ⟨E31, rfl⟩
  have E31 := grown_of_below E31
  have z_w30 := E31.size
  have hT := hT.keepG (Gr.of0 E31 NoB) (fun _ _ h => h)
  have hB6 := hB6.keep0 E31
  have hB15 := hB15.keep0 E31
  have hO17 := hO17.keep0 E31
  have hb := below_step0 hb E31 hb.size
  rcases Bool.eq_false_or_eq_true ((decide ((D17.getD 0 default).2.1 = x))) with c20 | c20
  · -- 20T
   rw [c20]
   refine g_true (j := 3) (dj := 14) (b := false) rfl rfl rfl (ev_hit hN rfl) ?_
   refine op_not (ev_hit hN rfl) ?_
   refine op_pick_f (ev_hit hN rfl) (ev_hit hN rfl) ?_
   refine reg_nil (hK22 _ _ (wp_cond_false (ev_hit hN rfl) ?_))
   refine wp_skip ?_
   refine hK21 _ _ (seq_any fun K32 hK32 => one_reg (op_move (ev_hit hN rfl) (op_index_rd slt102 (ev_hit hN rfl) hO17.rdw rfl (by omega) (by omega) ?_)))
   intro b33 o34 h0b33 h1b33 hc35
   refine op_field fld109_1 (ev_hit hN rfl) (op_loadA (cs := [(Value.int .i64 (D17.getD 0 default).2.2.1), (Value.int .i64 (D17.getD 0 default).2.2.2)]) agg36 rfl (ev_hit hN rfl) (fun j u hu => by have := hc35 (1 + j) u (by have := (List.getElem?_eq_some_iff.1 hu).1; simp at this; omega) ((el_pA (i := 0) (by omega) (by first | omega | (simp only [List.length_drop, List.length_take]; omega))) (1 + j) u (at_sub (cs := [(D17.getD 0 default).1, (Value.int .i64 (D17.getD 0 default).2.2.1), (Value.int .i64 (D17.getD 0 default).2.2.2)]) (k := 1) (n := 2) hu)); simpa [Nat.add_assoc] using this) ?_)
   refine op_store (vs := [(Value.int .i64 (D17.getD 0 default).2.2.1), (Value.int .i64 (D17.getD 0 default).2.2.2)]) (cs' := [(Value.int .i64 (D17.getD 0 default).2.2.1), (Value.int .i64 (D17.getD 0 default).2.2.2)]) size36 (ev_hit hN rfl) (ev_hit hN rfl) rfl rfl rfl hB6 (Nat.le_of_ble_eq_true rfl) rfl ?_
   intro w37 hB6 E38
   have z_w37 := E38.size
   have hT := hT.keepG (Gr.of E38) (Dj.one dj7)
   have hb := below_step1 hb E38 hb.size (by omega)
   refine op_assign rfl (reg_nil (hK32 _ _ (wp_ret ?_)))
   refine retN (rs := [.cell 4 36, .tmp 5]) (vs := [(Value.agg #[(Value.int .i64 (D17.getD 0 default).2.2.1), (Value.int .i64 (D17.getD 0 default).2.2.2)]), (Value.bool true)]) rfl hd ⟨⟨_, (ev_hit hN rfl), run_loadA (cs := [(Value.int .i64 (D17.getD 0 default).2.2.1), (Value.int .i64 (D17.getD 0 default).2.2.2)]) agg36 rfl (fun j u hu => by rw [Nat.zero_add]; exact hB6.cell hu)⟩, ⟨(ev_hit hN rfl), trivial⟩⟩ rfl ⟨_, rfl, ?_⟩
   have hE1 : (geL x M).take 1 = D17.map Prod.snd := hE17.symm
   rw [show D17 = D17.getD 0 default :: D17.tail from cons9 (by omega), List.map_cons] at hE1
   rw [getL_hit hT.sorted hE1 (of_decide_eq_true c20)]
   exact ⟨hb, rfl⟩
  · -- 20F
   rw [c20]
   refine g_true (j := 3) (dj := 14) (b := false) rfl rfl rfl (ev_hit hN rfl) ?_
   refine op_not (ev_hit hN rfl) ?_
   refine op_pick_f (ev_hit hN rfl) (ev_hit hN rfl) ?_
   refine reg_nil (hK22 _ _ (wp_cond_true (ev_hit hN rfl) ?_))
   refine seq_any fun K39 hK39 => one_reg (op_loadA (cs := [(Value.int .i64 0), (Value.int .i64 0)]) agg36 rfl (ev_hit hN rfl) (fun j u hu => by rw [Nat.zero_add]; exact hB15.cell hu) ?_)
   refine op_store (vs := [(Value.int .i64 0), (Value.int .i64 0)]) (cs' := [(Value.int .i64 0), (Value.int .i64 0)]) size36 (ev_hit hN rfl) (ev_hit hN rfl) rfl rfl rfl hB6 (Nat.le_of_ble_eq_true rfl) rfl ?_
   intro w40 hB6 E41
   have z_w40 := E41.size
   have hT := hT.keepG (Gr.of E41) (Dj.one dj7)
   have hb := below_step1 hb E41 hb.size (by omega)
   refine op_assign rfl (reg_nil (hK39 _ _ (wp_ret (then_ret ( ?_)))))
   refine retN (rs := [.cell 4 36, .tmp 5]) (vs := [(Value.agg #[(Value.int .i64 0), (Value.int .i64 0)]), (Value.bool false)]) rfl hd ⟨⟨_, (ev_hit hN rfl), run_loadA (cs := [(Value.int .i64 0), (Value.int .i64 0)]) agg36 rfl (fun j u hu => by rw [Nat.zero_add]; exact hB6.cell hu)⟩, ⟨(ev_hit hN rfl), trivial⟩⟩ rfl ⟨_, rfl, ?_⟩
   have hE1 : (geL x M).take 1 = D17.map Prod.snd := hE17.symm
   rw [show D17 = D17.getD 0 default :: D17.tail from cons9 (by omega), List.map_cons] at hE1
   rw [getL_miss1 hT.sorted hE1 (of_decide_eq_false c20)]
   exact ⟨hb, rfl⟩

end Go.Proofs.Ytcpfdfejojghbaa

/- The list that laws keep beside a tree: keys and values, rising. -/
namespace Go.Gx
open Go.Bt Go.RowKit
section
variable {w w' : World} {base p n : Nat} {M : List (Ky × Int)} {F H : Nat → Prop} {k : Ky} {v : Int}
def PairsR (base : Nat) (w : World) (p : Nat) (M : List (Ky × Int)) (F : Nat → Prop) : Prop :=
  ∃ kv vv, Bx w p 58 [kv, vv] ∧ Own w base 9 1 kv (M.map Prod.fst).length ((M.map Prod.fst).map sv) ∧ Own w base 3 1 vv (M.map Prod.snd).length ((M.map Prod.snd).map (Value.int .i64)) ∧ base ≤ p ∧ ∀ k, F k ↔ k = p ∨ Bl kv k ∨ Bl vv k
theorem PairsR.lt (T : PairsR base w p M F) : ∀ k, F k → base ≤ k ∧ k < w.heap.size := fun k hk => by
  obtain ⟨kv, vv, hB, h1, h2, hp, hF⟩ := T
  rcases (hF k).1 hk with rfl | hk | hk
  · exact ⟨hp, hB.lt⟩
  · exact h1.lt k hk
  · exact h2.lt k hk
theorem PairsR.keepG (T : PairsR base w p M F) (E : Gr w w' H) (hd : Dj F H) : PairsR base w' p M F := by
  obtain ⟨kv, vv, hB, h1, h2, hp, hF⟩ := T
  exact ⟨kv, vv, hB.keepG E (hd p ((hF p).2 (.inl rfl))), h1.keepG E (fun k h => hd k ((hF k).2 (.inr (.inl h)))), h2.keepG E (fun k h => hd k ((hF k).2 (.inr (.inr h)))), hp, hF⟩
end
end Go.Gx
namespace Go.Gx
end Go.Gx
namespace Go.Gx
end Go.Gx
namespace Go.Gx
open Go.Bt Go.RowKit
section
variable {D : List (DP Int)} {M : List (Ky × Int)} {i k n : Nat}
end
end Go.Gx
namespace Go.Gx
open Go.Bt Go.RowKit
section
variable {V : Type} {κ : Kd V} {w : World} {F : Nat → Prop} {b base base' p tT e sz n : Nat} {M : List (Ky × V)} {v : Value} {cs : List Value}
theorem hapB (h : ¬ F b) : ∀ j, F j → j < b ∨ b + 1 ≤ j := fun j hj => by
  rcases Nat.lt_trichotomy j b with q | q | q
  · exact .inl q
  · subst q; exact absurd hj h
  · exact .inr q
theorem own_at (O : Own w base e sz v n cs) (hd : Dj (Bl v) F) : ∃ L B, RdC w L B sz v n cs ∧ B ≤ w.heap.size ∧ ∀ j, F j → j < L ∨ B ≤ j := by
  rcases hv : v.ownBlock with _ | b
  · refine ⟨w.heap.size, 0, ?_, Nat.zero_le _, fun j _ => .inr (Nat.zero_le _)⟩
    rcases O.2 with ⟨rfl, _⟩ | ⟨g, off, cap, cur, fr, rfl, _⟩
    · have hn : n = 0 := by rcases O with ⟨_, ⟨_, h⟩ | ⟨g, off, cap, cur, fr, h, _⟩⟩; exact h; cases h
      have hc : cs = [] := List.eq_nil_of_length_eq_zero (by rw [O.1, hn, Nat.zero_mul])
      subst hn; subst hc; exact RdC.nil _ _ _ _
    · cases hv
  · have h1 := O.rebase (base' := b) (fun k hk => by rw [hv] at hk; injection hk with hk; omega)
    refine ⟨b, b + 1, h1.rd (fun k hk => by rw [hv] at hk; injection hk with hk; omega), (O.lt b hv).2, hapB fun hf => hd b hv hf⟩
theorem TopL.rebase (T : TopL κ tT base w p M F) (h : base' ≤ base) : TopL κ tT base' w p M F := by
  obtain ⟨o, ⟨h1, h2, h3, h4⟩, e⟩ := T
  exact ⟨o, ⟨h1, fun k hk => ⟨Nat.le_trans h (h2 k hk).1, (h2 k hk).2⟩, h3, h4⟩, e⟩
end
end Go.Gx
namespace Go.Bt
theorem one_sum {r : List Nat} {n : Nat} (h : r.length = 1) (hs : r.sum = n) : r.getD 0 0 = n := by
  match r, h with
  | [a], _ => simpa using hs
end Go.Bt

/- Walks, written by a program: what each function of the translation hands back. -/
namespace Go.Proofs.Ytcpfdfejojghbaa
open Go.Gx Go.RowKit
attribute [local irreducible] wpList wpStill Code.wp Calls
open Go.Bt
end Go.Proofs.Ytcpfdfejojghbaa

/- Walks, written by a program: what each function of the translation hands back. -/
namespace Go.Proofs.Ytcpfdfejojghbaa
open Go.Gx Go.RowKit
attribute [local irreducible] wpList wpStill Code.wp Calls
open Go.Bt
end Go.Proofs.Ytcpfdfejojghbaa

/- Walks, written by a program: what each function of the translation hands back. -/
namespace Go.Proofs.Ytcpfdfejojghbaa
open Go.Gx Go.RowKit
attribute [local irreducible] wpList wpStill Code.wp Calls
open Go.Bt
end Go.Proofs.Ytcpfdfejojghbaa

/- Walks, written by a program: what each function of the translation hands back. -/
namespace Go.Proofs.Ytcpfdfejojghbaa
open Go.Gx Go.RowKit
attribute [local irreducible] wpList wpStill Code.wp Calls
open Go.Bt
end Go.Proofs.Ytcpfdfejojghbaa

/- Walks, written by a program: what each function of the translation hands back. -/
namespace Go.Proofs.Ytcpfdfejojghbaa
open Go.Gx Go.RowKit
attribute [local irreducible] wpList wpStill Code.wp Calls
open Go.Bt
end Go.Proofs.Ytcpfdfejojghbaa

/- Walks, written by a program: what each function of the translation hands back. -/
namespace Go.Proofs.Ytcpfdfejojghbaa
open Go.Gx Go.RowKit
attribute [local irreducible] wpList wpStill Code.wp Calls
open Go.Bt
end Go.Proofs.Ytcpfdfejojghbaa

/- Walks, written by a program: what each function of the translation hands back. -/
namespace Go.Proofs.Ytcpfdfejojghbaa
open Go.Gx Go.RowKit
attribute [local irreducible] wpList wpStill Code.wp Calls
open Go.Bt
theorem putLsE {M M' : List (Ky × Int)} {k : List UInt8} {xv : Value} {x : Int} {c : Bool} {F : Nat → Prop} {p base L B : Nat} {w : World} (hT : TopL kI 71 base w p M F) (hb : base ≤ w.heap.size) (hk : RdC w L B 1 xv k.length (k.map u8v)) (hB : B ≤ w.heap.size) (hap : ∀ j, F j → j < L ∨ B ≤ j) (hkn : k.length ≤ 1000000000) (hM : putL k x M = M') (hc : (ks1 M).contains k = c) :
    Ret Try.prog 23 #[ptr p 0, xv, .int .i64 x] w (fun v' w' => Gr w w' F ∧ v' = .bool c ∧ ∃ F', TopL kI 71 base w' p M' F' ∧ NewF w.heap.size F F') := by
  subst hM; subst hc
  exact putLsI hT hb hk hB hap hkn
theorem getLsE {M : List (Ky × Int)} {F : Nat → Prop} {x : List UInt8} {xv : Value} {p base : Nat} {g : Int} {c : Bool} {w : World} (hT : TopL kI 71 base w p M F) (hkl : ∀ q ∈ M, q.1.length ≤ 1000000000) (hxr : RdC w 0 w.heap.size 1 xv x.length (x.map u8v)) (hDM : M.length ≤ 100000) (hg : (getL x M).getD 0 = g) (hc : (getL x M).isSome = c) : Ret Try.prog 30 #[ptr p 0, xv] w (fun v' w' => Below w.heap.size w w' ∧ v' = .tuple #[.int .i64 g, .bool c]) := by
  subst hg; subst hc
  exact getLsI hT hkl hxr hDM
theorem begun15 {w : World} : Ret Try.prog 11 #[] w (fun v' w' => Below w.heap.size w w' ∧ v' = .bool true) := by
 have hb := Below.refl w.heap.size w
 refine enter (N := 62) Try.func11 rfl rfl (by simp) fun a0 hN hd hA => ?_
 clear hA
 refine seq_any fun K1 hK1 => ?_
 refine one_reg (op_assign rfl (reg_nil (hK1 _ _ (seq_any fun K2 hK2 => one_reg (op_fn (vs := []) ok22 trivial (newLI) ?_)))))
 rintro _ w4 ⟨E5, p3, F3, rfl, hT3⟩
 have E5 := grown_of_below E5
 have z_w4 := E5.size
 have hb := below_step0 hb E5 hb.size
 have hT3 : TopL kI 71 w.heap.size w4 p3 [] F3 := hT3.rebase (by omega)
 refine op_assign (ev_hit hN rfl) ?_
 refine reg_nil (hK2 _ _ (seq_any fun K7 hK7 => one_reg (op_move (ev_hit hN rfl) (op_bslice (e := 5) (pv := [(0, (Value.int .u8 98))]) (cs := [(Value.int .u8 98)]) ⟨rfl, rfl, trivial⟩ (by kernel_rfl) ?_))))
 intro w8 b9 lo_b9 hi_b9 hB11 E10
 have dj12 : ¬ F3 b9 := fun hf => by have := (hT3.lt _ hf).2; omega
 have z_w8 := E10.size
 have hT3 := hT3.keepG (Gr.of0 E10 NoB) (fun _ _ h => h)
 have hb := below_step0 hb E10 hb.size
 refine op_conv_bytes (base := w.heap.size) Try.underlying27 Try.underlying5 (ev_hit hN rfl) hB11 rfl (by decide) (by omega) ?_
 intro w13 hO15 E14
 have z_w13 := E14.size
 have hT3 := hT3.keepG (Gr.of E14) (Dj.one dj12)
 have hb := below_step1 hb E14 hb.size (by omega)
 have dj16 : Dj (Bl (Value.slice (some ⟨b9, 0, none⟩) 1 1)) F3 := (Dj.one dj12).symm
 obtain ⟨L18, B18, hr18, hB18, hq18⟩ := own_at hO15 dj16
 refine op_fn (vs := [(ptr p3 0), (Value.slice (some ⟨b9, 0, none⟩) 1 1), (Value.int .i64 1)]) ok23 ⟨(ev_hit hN rfl), ⟨(ev_hit hN rfl), ⟨rfl, trivial⟩⟩⟩ (putLsE (k := [98]) (x := 1) (M := []) (M' := ([([98], 1)] : List (Ky × Int))) (c := false) hT3 hb.size hr18 hB18 hq18 (by decide) (by decide) (by decide)) ?_
 rintro _ w19 ⟨E20, rfl, F17, hT17, hN17⟩
 have bd21 := hO15.lt
 have hT3_old := hT3
 have z_w19 := E20.size
 have hb := below_stepG hb E20 hb.size (fun k hk => (hT3_old.lt k hk).1)
 refine op_assign (ev_hit hN rfl) ?_
 refine reg_nil (hK7 _ _ (seq_any fun K23 hK23 => one_reg ?_))
 skip
 refine op_move (ev_hit hN rfl) (op_bslice (e := 5) (pv := [(0, (Value.int .u8 98))]) (cs := [(Value.int .u8 98)]) ⟨rfl, rfl, trivial⟩ (by kernel_rfl) ?_)
 intro w24 b25 lo_b25 hi_b25 hB27 E26
 have dj28 : ¬ F17 b25 := fun hf => by have := (hT17.lt _ hf).2; omega
 have z_w24 := E26.size
 have hT17 := hT17.keepG (Gr.of0 E26 NoB) (fun _ _ h => h)
 have hb := below_step0 hb E26 hb.size
 refine op_conv_bytes (base := w.heap.size) Try.underlying27 Try.underlying5 (ev_hit hN rfl) hB27 rfl (by decide) (by omega) ?_
 intro w29 hO31 E30
 have z_w29 := E30.size
 have hT17 := hT17.keepG (Gr.of E30) (Dj.one dj28)
 have hb := below_step1 hb E30 hb.size (by omega)
 have dj32 : Dj (Bl (Value.slice (some ⟨b25, 0, none⟩) 1 1)) F17 := (Dj.one dj28).symm
 obtain ⟨L34, B34, hr34, hB34, hq34⟩ := own_at hO31 dj32
 refine op_fn (vs := [(ptr p3 0), (Value.slice (some ⟨b25, 0, none⟩) 1 1), (Value.int .i64 2)]) ok23 ⟨(ev_hit hN rfl), ⟨(ev_hit hN rfl), ⟨rfl, trivial⟩⟩⟩ (putLsE (k := [98]) (x := 2) (M := ([([98], 1)] : List (Ky × Int))) (M' := ([([98], 2)] : List (Ky × Int))) (c := true) hT17 hb.size hr34 hB34 hq34 (by decide) (by decide) (by decide)) ?_
 rintro _ w35 ⟨E36, rfl, F33, hT33, hN33⟩
 have bd37 := hO31.lt
 have hT17_old := hT17
 have z_w35 := E36.size
 have hb := below_stepG hb E36 hb.size (fun k hk => (hT17_old.lt k hk).1)
 refine op_assign (ev_hit hN rfl) ?_
 refine reg_nil (hK23 _ _ (seq_any fun K39 hK39 => one_reg ?_))
 skip
 refine op_move (ev_hit hN rfl) (op_bslice (e := 5) (pv := [(0, (Value.int .u8 98))]) (cs := [(Value.int .u8 98)]) ⟨rfl, rfl, trivial⟩ (by kernel_rfl) ?_)
 intro w40 b41 lo_b41 hi_b41 hB43 E42
 have dj44 : ¬ F33 b41 := fun hf => by have := (hT33.lt _ hf).2; omega
 have z_w40 := E42.size
 have hT33 := hT33.keepG (Gr.of0 E42 NoB) (fun _ _ h => h)
 have hb := below_step0 hb E42 hb.size
 refine op_conv_bytes (base := w.heap.size) Try.underlying27 Try.underlying5 (ev_hit hN rfl) hB43 rfl (by decide) (by omega) ?_
 intro w45 hO47 E46
 have z_w45 := E46.size
 have hT33 := hT33.keepG (Gr.of E46) (Dj.one dj44)
 have hb := below_step1 hb E46 hb.size (by omega)
 refine op_fn (vs := [(ptr p3 0), (Value.slice (some ⟨b41, 0, none⟩) 1 1)]) ok30 ⟨(ev_hit hN rfl), ⟨(ev_hit hN rfl), trivial⟩⟩ (getLsE (x := [98]) (g := 2) (c := true) hT33 (by decide) (hO47.rdw.mono (Nat.zero_le _) (by omega)) (by decide) (by decide) (by decide)) ?_
 rintro _ w49 ⟨E50, rfl⟩
 have E50 := grown_of_below E50
 have z_w49 := E50.size
 have hT33 := hT33.keepG (Gr.of0 E50 NoB) (fun _ _ h => h)
 have hb := below_step0 hb E50 hb.size
 refine op_move (ev_hit hN rfl) (op_extract (ev_hit hN rfl) rfl ?_)
 refine op_extract (ev_hit hN rfl) rfl ?_
 refine op_assign (ev_hit hN rfl) ?_
 refine op_assign (ev_hit hN rfl) ?_
 refine reg_nil (hK39 _ _ (seq_any fun K51 hK51 => one_reg ?_))
 skip
 refine op_move (ev_hit hN rfl) (op_fn (vs := [(ptr p3 0)]) ok33 ⟨(ev_hit hN rfl), trivial⟩ (levLsI hT33 (by decide)) ?_)
 rintro v52 w53 ⟨E54, LL52, LV52, hO52, hA52, hlev52, hLK52⟩
 have E54 := grown_of_below E54
 have z_w53 := E54.size
 have hT33 := hT33.keepG (Gr.of0 E54 NoB) (fun _ _ h => h)
 have hb := below_step0 hb E54 hb.size
 have hLn52 := lev_len hlev52
 have hz52 := hLK52.zero
 have hle52 := hLK52.le
 have hO52 := hO52.mono (base' := w.heap.size) (by omega)
 have hA52 : ∀ x9 ∈ LL52, Own w53 w.heap.size 3 1 x9.1 x9.2.length (x9.2.map (Value.int .i64)) := fun x9 h9 => (hA52 x9 h9).mono (by omega)
 refine op_assign (ev_hit hN rfl) ?_
 refine reg_nil (hK51 _ _ (seq_any fun K56 hK56 => one_reg ?_))
 have hM1 : ([([98], 2)] : List (Ky × Int)).length = 1 := rfl
 have hLL1 : LL52.length = 1 := by omega
 have hat := lev_at hlev52 0
 have hw : (LV52.getD 0 []).length = 1 := (hLK52.at_ 0 (by omega)).1
 have hlen9 : (LL52.getD 0 default).2.length = 1 := by rw [hat, List.length_map]; exact hw
 have hs9 : (LV52.getD 0 []).sum = 1 := by have := hLK52.sum; rw [show LV52.length - 1 = 0 by omega] at this; exact this
 have h00 : (LL52.getD 0 default).2.getD 0 0 = 1 := by rw [hat, ints_at]; have := one_sum hw hs9; omega
 refine op_move (ev_hit hN rfl) (op_not (ev_hit hN rfl) ?_)
 refine op_move (ev_hit hN rfl) (g_true (j := 2) (dj := 27) (b := true) rfl rfl rfl (ev_hit hN rfl) ?_)
 refine op_move (ev_hit hN rfl) (op_pick_t (ev_hit hN rfl) (ev_hit hN rfl) ?_)
 refine op_move (ev_hit hN rfl) (g_true (j := 5) (dj := 30) (b := true) rfl rfl rfl (ev_hit hN rfl) ?_)
 refine op_move (ev_hit hN rfl) (op_pick_t (ev_hit hN rfl) (ev_hit hN rfl) ?_)
 refine op_move (ev_hit hN rfl) (g_true (j := 8) (dj := 33) (b := true) rfl rfl rfl (ev_hit hN rfl) ?_)
 refine op_move (ev_hit hN rfl) (g_true (j := 8) (dj := 33) (b := true) rfl rfl rfl (ev_hit hN rfl) ?_)
 refine op_bin (v := .bool true) (ev_hit hN rfl) rfl (by rw [binOp_eql]; rfl) ?_
 refine op_pick_t (ev_hit hN rfl) (ev_hit hN rfl) ?_
 refine op_move (ev_hit hN rfl) (g_true (j := 12) (dj := 37) (b := true) rfl rfl rfl (ev_hit hN rfl) ?_)
 refine op_move (ev_hit hN rfl) (g_true (j := 12) (dj := 37) (b := true) rfl rfl rfl (ev_hit hN rfl) ?_)
 refine op_fn (vs := [(ptr p3 0)]) ok25 ⟨(ev_hit hN rfl), trivial⟩ (lenLsI hT33 (by decide)) ?_
 rintro _ w57 ⟨E58, rfl⟩
 have E58 := grown_of_below E58
 have z_w57 := E58.size
 have hO52 := hO52.keep0 E58
 have hA52 := all9 hA52 fun _ h => h.keep0 E58
 have hb := below_step0 hb E58 hb.size
 refine g_true (j := 12) (dj := 37) (b := true) rfl rfl rfl (ev_hit hN rfl) ?_
 refine op_eql (ev_hit hN rfl) rfl (fun c40 => ?_) (fun c40 => ?_)
 · -- 40T
  refine op_pick_t (ev_hit hN rfl) (ev_hit hN rfl) ?_
  refine op_move (ev_hit hN rfl) (g_true (j := 17) (dj := 42) (b := true) rfl rfl rfl (ev_hit hN rfl) ?_)
  refine op_move (ev_hit hN rfl) (g_true (j := 17) (dj := 42) (b := true) rfl rfl rfl (ev_hit hN rfl) ?_)
  refine op_len_rd Try.underlying28 (ev_hit hN rfl) hO52.rdw ?_
  refine g_true (j := 17) (dj := 42) (b := true) rfl rfl rfl (ev_hit hN rfl) ?_
  refine op_eql (ev_hit hN rfl) rfl (fun c45 => ?_) (fun c45 => ?_)
  · -- 45T
   refine op_pick_t (ev_hit hN rfl) (ev_hit hN rfl) ?_
   refine op_move (ev_hit hN rfl) (g_true (j := 22) (dj := 47) (b := true) rfl rfl rfl (ev_hit hN rfl) ?_)
   refine op_move (ev_hit hN rfl) (g_true (j := 22) (dj := 47) (b := true) rfl rfl rfl (ev_hit hN rfl) ?_)
   refine op_index_rd slt28 (ev_hit hN rfl) hO52.rdw rfl (by omega) (by omega) ?_
   intro b59 o60 h0b59 h1b59 hc61
   refine g_true (j := 22) (dj := 47) (b := true) rfl rfl rfl (ev_hit hN rfl) ?_
   have hs62 : Own w57 w.heap.size 3 1 (LL52.getD 0 default).1 (LL52.getD 0 default).2.length ((LL52.getD 0 default).2.map (Value.int .i64)) := hA52 _ (getD_mem (by omega))
   refine op_load1 (v := (LL52.getD 0 default).1) one30 (ev_hit hN rfl) (by have := hc61 0 (LL52.getD 0 default).1 (by decide) (el_ll (i := 0) (d := default) (by omega) (by omega)); simpa using this) (g_true (j := 22) (dj := 47) (b := true) rfl rfl rfl (ev_hit hN rfl) ?_)
   refine op_len_rd Try.underlying30 (ev_hit hN rfl) hs62.rdw ?_
   refine g_true (j := 22) (dj := 47) (b := true) rfl rfl rfl (ev_hit hN rfl) ?_
   refine op_eql (ev_hit hN rfl) rfl (fun c52 => ?_) (fun c52 => ?_)
   · -- 52T
    refine op_pick_t (ev_hit hN rfl) (ev_hit hN rfl) ?_
    refine op_move (ev_hit hN rfl) (g_true (j := 29) (dj := 54) (b := true) rfl rfl rfl (ev_hit hN rfl) ?_)
    refine op_move (ev_hit hN rfl) (g_true (j := 29) (dj := 54) (b := true) rfl rfl rfl (ev_hit hN rfl) ?_)
    refine op_index_rd slt28 (ev_hit hN rfl) hO52.rdw rfl (by omega) (by omega) ?_
    intro b63 o64 h0b63 h1b63 hc65
    refine g_true (j := 29) (dj := 54) (b := true) rfl rfl rfl (ev_hit hN rfl) ?_
    refine op_load1 (v := (LL52.getD 0 default).1) one30 (ev_hit hN rfl) (by have := hc65 0 (LL52.getD 0 default).1 (by decide) (el_ll (i := 0) (d := default) (by omega) (by omega)); simpa using this) (g_true (j := 29) (dj := 54) (b := true) rfl rfl rfl (ev_hit hN rfl) ?_)
    refine op_index_rd slt30 (ev_hit hN rfl) hs62.rdw rfl (by omega) (by omega) ?_
    intro b67 o68 h0b67 h1b67 hc69
    refine g_true (j := 29) (dj := 54) (b := true) rfl rfl rfl (ev_hit hN rfl) ?_
    refine op_load1 (v := (Value.int .i64 ((LL52.getD 0 default).2.getD 0 0))) one3 (ev_hit hN rfl) (by have := hc69 0 (Value.int .i64 ((LL52.getD 0 default).2.getD 0 0)) (by decide) (el_i64 (i := 0) (by omega) (by omega)); simpa using this) (g_true (j := 29) (dj := 54) (b := true) rfl rfl rfl (ev_hit hN rfl) ?_)
    refine op_eql (ev_hit hN rfl) rfl (fun c60 => ?_) (fun c60 => ?_)
    · -- 60T
     refine op_pick_t (ev_hit hN rfl) (ev_hit hN rfl) ?_
     refine op_assign (ev_hit hN rfl) ?_
     refine reg_nil (hK56 _ _ (wp_ret ?_))
     refine ret1 rfl hd (ev_hit hN rfl) ⟨_, rfl, ?_⟩
     exact ⟨hb, rfl⟩
    · -- 60F
     exfalso; omega
   · -- 52F
    exfalso; omega
  · -- 45F
   exfalso; omega
 · -- 40F
  exfalso; omega

end Go.Proofs.Ytcpfdfejojghbaa

/- What the laws of trees say, plainly. -/
namespace Go.Bt
section
variable {V : Type} {L : List (List Nat)} {n d m i j : Nat} {M : List (Ky × V)} {v : V}
end
end Go.Bt
namespace Go.Bt
section
variable {M N : List (Ky × Int)} {i n kk : Nat} {f g : Nat → UInt16}
end
end Go.Bt
namespace Go.Gx
open Go.Bt
end Go.Gx
namespace Go.Bt
section
variable {M : List (Ky × Int)} {D : List (Ky × Int)} {i n s : Nat} {k : Ky}
end
end Go.Bt
namespace Go.Gx
open Go.Bt
end Go.Gx
namespace Go.Bt
end Go.Bt
namespace Go.Bt
section
variable {V W : Type} {M : List (Ky × V)} {N : List (Ky × W)} {x k : Ky} {v : V} {u : W} {l : List UInt16} {b : UInt8} {i n j : Nat}
theorem getL_put (H : SortedL M) : getL x (putL k v M) = if x = k then some v else getL x M := by
  split
  · rename_i e; subst e
    exact getL_some (putL_sorted H) (mem_putL.2 (.inl rfl)) rfl
  · rename_i e
    rcases hg : getL x M with _ | g
    · refine getL_none fun p hp e2 => ?_
      rcases mem_putL.1 hp with rfl | ⟨_, hp⟩
      · exact e e2.symm
      · rw [getL_some H hp e2] at hg; cases hg
    · have hf : ∃ p ∈ M, p.1 = x ∧ p.2 = g := by
        unfold getL at hg
        rw [Option.map_eq_some_iff] at hg
        obtain ⟨p, hp, rfl⟩ := hg
        exact ⟨p, List.mem_of_find?_eq_some hp, by simpa using List.find?_some hp, rfl⟩
      obtain ⟨p, hp, e1, rfl⟩ := hf
      exact getL_some (putL_sorted H) (mem_putL.2 (.inr ⟨fun q => e (e1.symm.trans q), hp⟩)) e1
theorem ks1_put : ks1 (putL k v M) = (ks1 M).filter (fun y => decide (y < k)) ++ k :: (ks1 M).filter (fun y => decide (k < y)) := by
  unfold putL ltL gtL
  simp only [ks1, List.map_append, List.map_cons, List.filter_map]
  rfl
theorem ks1_same (h : ks1 M = ks1 N) : ks1 (putL k v M) = ks1 (putL k u N) := by rw [ks1_put, ks1_put, h]
def b8 (x : UInt16) : UInt8 := UInt8.ofNat x.toNat
def lastN (l : List UInt16) (b : UInt8) : Nat → Option Nat
  | 0 => none
  | i + 1 => if [b] = [b8 (l.getD i 0)] then some i else lastN l b i
theorem lastN_suc : lastN l b (i + 1) = if [b] = [b8 (l.getD i 0)] then some i else lastN l b i := rfl
theorem lastN_at : ∀ {n : Nat}, i < n → b8 (l.getD i 0) = b → ∃ j, lastN l b n = some j ∧ i ≤ j ∧ j < n ∧ b8 (l.getD j 0) = b
  | 0, hi, _ => absurd hi (Nat.not_lt_zero _)
  | n + 1, hi, hb => by
    rw [lastN_suc]
    by_cases e : [b] = [b8 (l.getD n 0)]
    · rw [if_pos e]
      injection e with e _
      exact ⟨n, rfl, by omega, by omega, e.symm⟩
    · rw [if_neg e]
      have hn : i ≠ n := fun q => e (by rw [← q, hb])
      obtain ⟨j, h1, h2, h3, h4⟩ := lastN_at (n := n) (by omega) hb
      exact ⟨j, h1, h2, by omega, h4⟩
def kA (l : List UInt16) (j : Nat) : Int × Int := ((j : Int), ((l.getD j 0).toNat : Int))
theorem kinds_putA {M : List (Ky × (Int × Int))} (H : SortedL M) (h : ∀ b, getL [b] M = (lastN l b i).map (kA l)) : ∀ b, getL [b] (putL [b8 (l.getD i 0)] (kA l i) M) = (lastN l b (i + 1)).map (kA l) := fun b => by
  rw [getL_put H, h, lastN_suc]
  split <;> rfl
theorem kinds_putB {M : List (Ky × List UInt8)} (H : SortedL M) (h : ∀ b, getL [b] M = (lastN l b i).map (fun _ => [b])) : ∀ b, getL [b] (putL [b8 (l.getD i 0)] [b8 (l.getD i 0)] M) = (lastN l b (i + 1)).map (fun _ => [b]) := fun b => by
  rw [getL_put H, h, lastN_suc]
  split
  · rename_i e; rw [e]; rfl
  · rfl
theorem put_one (H : ∀ q ∈ M, q.1.length = 1) {y : UInt8} : ∀ q ∈ putL [y] v M, q.1.length = 1 := fun q hq => by
  rcases mem_putL.1 hq with rfl | ⟨_, h⟩
  · rfl
  · exact H q h
theorem put_lenV (H : SortedL M) (h : M.length ≤ i) : (putL k v M).length ≤ i + 1 := by
  rw [putL_len H]; split <;> omega
end
end Go.Bt
namespace Go.Bt
section
variable {M : List (Ky × Int)} {k : Ky} {v : Int}
end
end Go.Bt

/- Walks, written by a program: what each function of the translation hands back. -/
namespace Go.Proofs.Ytcpfdfejojghbaa
open Go.Gx Go.RowKit
attribute [local irreducible] wpList wpStill Code.wp Calls
open Go.Bt
theorem getLsAE {M : List (Ky × (Int × Int))} {F : Nat → Prop} {x : List UInt8} {xv : Value} {p base : Nat} {g : Int × Int} {w : World} (hT : TopL kA 101 base w p M F) (hkl : ∀ q ∈ M, q.1.length ≤ 1000000000) (hxr : RdC w 0 w.heap.size 1 xv x.length (x.map u8v)) (hDM : M.length ≤ 100000) (hg : getL x M = some g) : Ret Try.prog 18 #[ptr p 0, xv] w (fun v' w' => Below w.heap.size w w' ∧ v' = .tuple #[.agg #[.int .i64 g.1, .int .i64 g.2], .bool true]) := by
  have := getLsA (x := x) hT hkl hxr hDM
  rw [hg] at this
  exact this
theorem getLsSE {M : List (Ky × List UInt8)} {F : Nat → Prop} {x : List UInt8} {xv : Value} {p base : Nat} {g : List UInt8} {w : World} (hT : TopL kS 88 base w p M F) (hkl : ∀ q ∈ M, q.1.length ≤ 1000000000) (hxr : RdC w 0 w.heap.size 1 xv x.length (x.map u8v)) (hDM : M.length ≤ 100000) (hg : getL x M = some g) : Ret Try.prog 19 #[ptr p 0, xv] w (fun v' w' => Below w.heap.size w w' ∧ v' = .tuple #[.string (bs g), .bool true]) := by
  have := getLsS (x := x) hT hkl hxr hDM
  rw [hg] at this
  exact this
theorem TreeKinds_ret (l : List UInt16) (vl : Value) (w : World) (hll : l.length ≤ 9223372036854775807) (hr : RdC w 0 w.heap.size 1 vl l.length (l.map u16v)) : Ret Try.prog 4 #[vl] w (fun v' w' => Below w.heap.size w w' ∧ v' = .bool true) := by
 have hb := Below.refl w.heap.size w
 refine enter (N := 143) Try.func4 rfl rfl (by simp) fun a0 hN hd hA => ?_
 have s0 : a0.tmps.getD 0 undef = vl := hA 0 (by simp)
 clear hA
 refine seq_any fun K1 hK1 => one_reg ?_
 refine op_assign rfl (reg_nil (hK1 _ _ (seq_any fun K2 hK2 => seq_any fun K3 hK3 => one_reg (op_fn (vs := []) ok11 trivial (begun15) ?_))))
 rintro _ w4 ⟨E5, rfl⟩
 have E5 := grown_of_below E5
 have z_w4 := E5.size
 have hr := hr.keep0 E5
 have hb := below_step0 hb E5 hb.size
 refine op_not (ev_hit hN rfl) ?_
 refine reg_nil (hK3 _ _ (wp_cond_false (ev_hit hN rfl) ?_))
 refine wp_skip ?_
 refine hK2 _ _ (seq_any fun K6 hK6 => seq_any fun K7 hK7 => one_reg (op_move (ev_base hN rfl s0) (op_len_rd Try.underlying33 (ev_hit hN rfl) hr ?_)))
 refine op_gtr (ev_hit hN rfl) rfl (fun c17 => ?_) (fun c17 => ?_)
 · -- 17T
  refine reg_nil (hK7 _ _ (wp_cond_true (ev_hit hN rfl) ?_))
  refine seq_any fun K8 hK8 => one_reg (op_assign rfl (reg_nil (hK8 _ _ (wp_ret (then_ret ( ?_))))))
  refine ret1 rfl hd (ev_hit hN rfl) ⟨_, rfl, ?_⟩
  exact ⟨hb, rfl⟩
 · -- 17F
  refine reg_nil (hK7 _ _ (wp_cond_false (ev_hit hN rfl) ?_))
  refine wp_skip ?_
  refine hK6 _ _ (seq_any fun K9 hK9 => one_reg (op_fn (vs := []) ok16 trivial (newLA) ?_))
  rintro _ w11 ⟨E12, p10, F10, rfl, hT10⟩
  have E12 := grown_of_below E12
  have z_w11 := E12.size
  have hr := hr.keep0 E12
  have hb := below_step0 hb E12 hb.size
  have hT10 : TopL kA 101 w.heap.size w11 p10 [] F10 := hT10.rebase (by omega)
  refine op_fn (vs := []) ok12 trivial (newLS) ?_
  rintro _ w15 ⟨E16, p14, F14, rfl, hT14⟩
  have E16 := grown_of_below E16
  have hlo17 : ∀ k, F14 k → w11.heap.size ≤ k := fun k hk => (hT14.lt k hk).1
  have dj18 : Dj F10 F14 := Dj.fresh (fun k hk => (hT10.lt k hk).2) hlo17
  have z_w15 := E16.size
  have hr := hr.keep0 E16
  have hT10 := hT10.keepG (Gr.of0 E16 NoB) (fun _ _ h => h)
  have hb := below_step0 hb E16 hb.size
  have hT14 : TopL kS 88 w.heap.size w15 p14 [] F14 := hT14.rebase (by omega)
  refine op_assign (ev_hit hN rfl) ?_
  refine op_assign (ev_hit hN rfl) ?_
  refine reg_nil (hK9 _ _ ?_)
  refine seq_any fun K19 hK19 => seq_any fun K20 hK20 => one_reg (op_assign rfl (reg_nil (hK20 _ _ (wp_block ?_))))
  refine loop_m (fun mz_ az_ w' => ∃ (i : Nat) (MA : List (Ky × (Int × Int))) (MB : List (Ky × List UInt8)) (FA FB : Nat → Prop), mz_ = l.length - i ∧ (az_.tmps.getD 0 undef = vl) ∧ (az_.tmps.getD 2 undef = (Value.bool false)) ∧ (az_.tmps.getD 3 undef = (ptr p10 0)) ∧ (az_.tmps.getD 4 undef = (ptr p14 0)) ∧ (az_.tmps.getD 5 undef = (Value.int .i64 ((i : Nat) : Int))) ∧ (i ≤ l.length) ∧ (∀ b, getL [b] MA = (lastN l b i).map (Go.Bt.kA l)) ∧ (∀ b, getL [b] MB = (lastN l b i).map (fun _ => [b])) ∧ (ks1 MA = ks1 MB) ∧ (∀ q ∈ MA, q.1.length = 1) ∧ (∀ q ∈ MB, q.1.length = 1) ∧ (MA.length ≤ i) ∧ (MB.length ≤ i) ∧ (Dj FA FB) ∧ (Below w.heap.size w w') ∧ (w15.heap.size ≤ w'.heap.size) ∧ (RdC w' 0 w.heap.size 1 vl l.length (l.map u16v)) ∧ (TopL kA 101 w.heap.size w' p10 MA FA) ∧ (TopL kS 88 w.heap.size w' p14 MB FB)) _ hN hd ⟨0, [], [], F10, F14, rfl, (sl_base hN rfl s0), (sl_hit hN rfl), (sl_hit hN rfl), (sl_hit hN rfl), (sl_hit hN rfl), (Nat.zero_le _), (fun _ => rfl), (fun _ => rfl), rfl, (fun _ h => (by cases h)), (fun _ h => (by cases h)), (Nat.le_refl _), (Nat.le_refl _), dj18, hb, (Nat.le_refl _), hr, hT10, hT14⟩ ?_
  rintro _ a21 w21 hN21 hd21 ⟨i, MA, MB, FA, FB, rfl, s21_0, s21_2, s21_3, s21_4, s21_5, hi, hA, hB, hK, hshA, hshB, hlA, hlB, hdj, hb, zl_w21, hr, hTA, hTB⟩
  have z_w21 := hb.size
  refine seq_any fun K22 hK22 => seq_any fun K23 hK23 => one_reg (op_move (ev_base hN21 rfl s21_5) (op_move (ev_base hN21 rfl s21_0) (op_len_rd Try.underlying33 (ev_hit hN21 rfl) hr ?_)))
  refine op_lss (ev_hit hN21 rfl) (ev_hit hN21 rfl) (fun c23 => ?_) (fun c23 => ?_)
  · -- 23T
   refine reg_nil (hK23 _ _ (wp_cond_true (ev_hit hN21 rfl) ?_))
   refine wp_skip ?_
   refine hK22 _ _ (seq_any fun K24 hK24 => wp_block ?_)
   refine seq_any fun K25 hK25 => one_reg (op_move (ev_base hN21 rfl s21_0) (op_move (ev_base hN21 rfl s21_5) (op_index_rd slt33 (ev_hit hN21 rfl) hr (ev_hit hN21 rfl) (by omega) (by omega) ?_)))
   intro b26 o27 h0b26 h1b26 hc28
   refine op_load1 (v := (Value.int .u16 ((l.getD i 0).toNat : Int))) one37 (ev_hit hN21 rfl) (by have := hc28 0 (Value.int .u16 ((l.getD i 0).toNat : Int)) (by decide) (el_u16 (i := i) (by omega) (by omega)); simpa using this) (op_conv (r := ((b8 (l.getD i 0)).toNat : Int)) (ev_hit hN21 rfl) us37 Try.underlying5 conv_u8 ?_)
   refine op_bslice (e := 5) (pv := [(0, (Value.int .u8 ((b8 (l.getD i 0)).toNat : Int)))]) (cs := [(Value.int .u8 ((b8 (l.getD i 0)).toNat : Int))]) ⟨rfl, (ev_hit hN21 rfl), trivial⟩ (by kernel_rfl) ?_
   intro w29 b30 lo_b30 hi_b30 hB32 E31
   have dj33 : ¬ FA b30 := fun hf => by have := (hTA.lt _ hf).2; omega
   have dj34 : ¬ FB b30 := fun hf => by have := (hTB.lt _ hf).2; omega
   have z_w29 := E31.size
   have hr := hr.keep0 E31
   have hTA := hTA.keepG (Gr.of0 E31 NoB) (fun _ _ h => h)
   have hTB := hTB.keepG (Gr.of0 E31 NoB) (fun _ _ h => h)
   have hb := below_step0 hb E31 hb.size
   refine op_assign (ev_hit hN21 rfl) ?_
   refine reg_nil (hK25 _ _ (seq_any fun K35 hK35 => one_reg ?_))
   have hsA := hTA.sorted
   have hsB := hTB.sorted
   refine op_move (ev_base hN21 rfl s21_3) (op_move (ev_hit hN21 rfl) (op_move (ev_base hN21 rfl s21_5) (op_move (ev_base hN21 rfl s21_0) (op_move (ev_base hN21 rfl s21_5) (op_index_rd slt33 (ev_hit hN21 rfl) hr (ev_hit hN21 rfl) (by omega) (by omega) ?_)))))
   intro b36 o37 h0b36 h1b36 hc38
   refine op_load1 (v := (Value.int .u16 ((l.getD i 0).toNat : Int))) one37 (ev_hit hN21 rfl) (by have := hc38 0 (Value.int .u16 ((l.getD i 0).toNat : Int)) (by decide) (el_u16 (i := i) (by omega) (by omega)); simpa using this) (op_conv (r := ((l.getD i 0).toNat : Int)) (ev_hit hN21 rfl) us37 Try.underlying3 (wrap_i64 (by have := ((l.getD i 0)).toNat_lt; omega)) ?_)
   refine op_build (pv := [(0, (Value.int .i64 ((i : Nat) : Int))), (1, (Value.int .i64 ((l.getD i 0).toNat : Int)))]) (v := (Value.agg #[(Value.int .i64 ((i : Nat) : Int)), (Value.int .i64 ((l.getD i 0).toNat : Int))])) ⟨rfl, (ev_hit hN21 rfl), ⟨rfl, (ev_hit hN21 rfl), trivial⟩⟩ (by kernel_rfl) ?_
   refine op_fn (vs := [(ptr p10 0), (Value.slice (some ⟨b30, 0, none⟩) 1 1), (Value.agg #[(Value.int .i64 ((i : Nat) : Int)), (Value.int .i64 ((l.getD i 0).toNat : Int))])]) ok17 ⟨(ev_hit hN21 rfl), ⟨(ev_hit hN21 rfl), ⟨(ev_hit hN21 rfl), trivial⟩⟩⟩ (putLsA (k := [(b8 (l.getD i 0))]) (x := (((i : Nat) : Int), ((l.getD i 0).toNat : Int))) hTA hb.size (RdC.ofBx (sz := 1) (n := 1) hB32 rfl (by decide)) (by have := hB32.lt; omega) (hapB dj33) (by simp; done)) ?_
   rintro _ w40 ⟨E41, rfl, F39, hT39, hN39⟩
   have bd42 := hTB.lt
   have bd43 := hB32.lt
   have hTA_old := hTA
   have z_w40 := E41.size
   have hr := hr.keepG E41 (fun k hk => .inr (by have := hTA_old.lt k hk; omega))
   have hTB := hTB.keepG E41 hdj.symm
   have hB32 := hB32.keepG E41 dj33
   have hb := below_stepG hb E41 hb.size (fun k hk => (hTA_old.lt k hk).1)
   have dj44 : Dj FB F39 := Dj.stepF hN39 (fun k hk => (bd42 k hk).2) hdj.symm
   refine reg_nil (hK35 _ _ (one_reg (op_move (ev_base hN21 rfl s21_4) (op_move (ev_hit hN21 rfl) (op_move (ev_hit hN21 rfl) (op_str_of (bl := [(b8 (l.getD i 0))]) Try.underlying27 Try.underlying5 Try.underlying9 (ev_hit hN21 rfl) (RdC.ofBx (sz := 1) (n := 1) hB32 rfl (by decide)) ?_))))))
   refine op_fn (vs := [(ptr p14 0), (Value.slice (some ⟨b30, 0, none⟩) 1 1), (Value.string (bs [(b8 (l.getD i 0))]))]) ok13 ⟨(ev_hit hN21 rfl), ⟨(ev_hit hN21 rfl), ⟨(ev_hit hN21 rfl), trivial⟩⟩⟩ (putLsS (k := [(b8 (l.getD i 0))]) (x := [(b8 (l.getD i 0))]) hTB hb.size (RdC.ofBx (sz := 1) (n := 1) hB32 rfl (by decide)) (by have := hB32.lt; omega) (hapB dj34) (by simp; done)) ?_
   rintro _ w47 ⟨E48, rfl, F46, hT46, hN46⟩
   have bd49 := hB32.lt
   have bd50 := hT39.lt
   have hTB_old := hTB
   have z_w47 := E48.size
   have hr := hr.keepG E48 (fun k hk => .inr (by have := hTB_old.lt k hk; omega))
   have hT39 := hT39.keepG E48 dj44.symm
   have hb := below_stepG hb E48 hb.size (fun k hk => (hTB_old.lt k hk).1)
   have dj52 : Dj F39 F46 := Dj.stepF hN46 (fun k hk => (bd50 k hk).2) dj44.symm
   refine reg_nil (hK24 _ _ (one_reg (op_move (ev_base hN21 rfl s21_5) (op_add (ev_hit hN21 rfl) rfl (add64 (by omega)) ?_))))
   refine op_assign (ev_hit hN21 rfl) ?_
   refine reg_nil ?_
   -- round 17F 23T
   exact loop_next _ hN21 hd21 ⟨(i + 1), (putL [(b8 (l.getD i 0))] (Go.Bt.kA l i) MA), (putL [(b8 (l.getD i 0))] [(b8 (l.getD i 0))] MB), F39, F46, rfl, (sl_base hN21 rfl s21_0), (sl_base hN21 rfl s21_2), (sl_base hN21 rfl s21_3), (sl_base hN21 rfl s21_4), (sl_hit hN21 rfl).trans (congrArg (Value.int .i64) (by omega)), (by omega), (kinds_putA hsA hA), (kinds_putB hsB hB), (ks1_same hK), (put_one hshA), (put_one hshB), (put_lenV hsA hlA), (put_lenV hsB hlB), dj52, hb, (by omega), hr, hT39, hT46⟩ (by omega)
  · -- 23F
   refine reg_nil (hK23 _ _ (wp_cond_false (ev_hit hN21 rfl) ?_))
   refine wp_exit (then_exit (then_exit (blk_hit ?_)))
   refine hK19 _ _ (seq_any fun K53 hK53 => seq_any fun K54 hK54 => one_reg ?_)
   have hil : i = l.length := by omega
   subst hil
   refine op_assign rfl (reg_nil (hK54 _ _ (wp_block ?_)))
   refine loop_m (fun mz_ az_ w' => ∃ (i : Nat), mz_ = l.length - i ∧ (az_.tmps.getD 0 undef = vl) ∧ (az_.tmps.getD 3 undef = (ptr p10 0)) ∧ (az_.tmps.getD 4 undef = (ptr p14 0)) ∧ (az_.tmps.getD 7 undef = (Value.int .i64 ((i : Nat) : Int))) ∧ (i ≤ l.length) ∧ (Below w.heap.size w w') ∧ (w21.heap.size ≤ w'.heap.size) ∧ (RdC w' 0 w.heap.size 1 vl l.length (l.map u16v)) ∧ (TopL kA 101 w.heap.size w' p10 MA FA) ∧ (TopL kS 88 w.heap.size w' p14 MB FB)) _ hN21 hd21 ⟨0, rfl, (sl_base hN21 rfl s21_0), (sl_base hN21 rfl s21_3), (sl_base hN21 rfl s21_4), (sl_hit hN21 rfl), (Nat.zero_le _), hb, (Nat.le_refl _), hr, hTA, hTB⟩ ?_
   rintro _ a55 w55 hN55 hd55 ⟨i, rfl, s55_0, s55_3, s55_4, s55_7, hi, hb, zl_w55, hr, hTA, hTB⟩
   have z_w55 := hb.size
   refine seq_any fun K56 hK56 => seq_any fun K57 hK57 => one_reg (op_move (ev_base hN55 rfl s55_7) (op_move (ev_base hN55 rfl s55_0) (op_len_rd Try.underlying33 (ev_hit hN55 rfl) hr ?_)))
   refine op_lss (ev_hit hN55 rfl) (ev_hit hN55 rfl) (fun c50 => ?_) (fun c50 => ?_)
   · -- 50T
    refine reg_nil (hK57 _ _ (wp_cond_true (ev_hit hN55 rfl) ?_))
    refine wp_skip ?_
    refine hK56 _ _ (seq_any fun K58 hK58 => wp_block ?_)
    refine seq_any fun K59 hK59 => one_reg ?_
    obtain ⟨j, hj1, hij, hjn, hjb⟩ := lastN_at (l := l) (i := i) (n := l.length) (by omega) rfl
    have hgA : getL [(b8 (l.getD i 0))] MA = some (Go.Bt.kA l j) := by rw [hA, hj1]; rfl
    have hgB : getL [(b8 (l.getD i 0))] MB = some [(b8 (l.getD i 0))] := by rw [hB, hj1]; rfl
    refine op_move (ev_base hN55 rfl s55_0) (op_move (ev_base hN55 rfl s55_7) (op_index_rd slt33 (ev_hit hN55 rfl) hr (ev_hit hN55 rfl) (by omega) (by omega) ?_))
    intro b60 o61 h0b60 h1b60 hc62
    refine op_load1 (v := (Value.int .u16 ((l.getD i 0).toNat : Int))) one37 (ev_hit hN55 rfl) (by have := hc62 0 (Value.int .u16 ((l.getD i 0).toNat : Int)) (by decide) (el_u16 (i := i) (by omega) (by omega)); simpa using this) (op_conv (r := ((b8 (l.getD i 0)).toNat : Int)) (ev_hit hN55 rfl) us37 Try.underlying5 conv_u8 ?_)
    refine op_bslice (e := 5) (pv := [(0, (Value.int .u8 ((b8 (l.getD i 0)).toNat : Int)))]) (cs := [(Value.int .u8 ((b8 (l.getD i 0)).toNat : Int))]) ⟨rfl, (ev_hit hN55 rfl), trivial⟩ (by kernel_rfl) ?_
    intro w63 b64 lo_b64 hi_b64 hB66 E65
    have z_w63 := E65.size
    have hr := hr.keep0 E65
    have hTA := hTA.keepG (Gr.of0 E65 NoB) (fun _ _ h => h)
    have hTB := hTB.keepG (Gr.of0 E65 NoB) (fun _ _ h => h)
    have hb := below_step0 hb E65 hb.size
    refine op_assign (ev_hit hN55 rfl) ?_
    refine reg_nil (hK59 _ _ (seq_any fun K69 hK69 => one_reg (op_move (ev_base hN55 rfl s55_3) (op_move (ev_hit hN55 rfl) (op_fn (vs := [(ptr p10 0), (Value.slice (some ⟨b64, 0, none⟩) 1 1)]) ok18 ⟨(ev_hit hN55 rfl), ⟨(ev_hit hN55 rfl), trivial⟩⟩ (getLsAE (x := [(b8 (l.getD i 0))]) (g := Go.Bt.kA l j) hTA (fun q hq => by rw [hshA q hq]; decide) ((RdC.ofBx (sz := 1) (n := 1) hB66 rfl (by decide)).mono (Nat.zero_le _) (by have := hB66.lt; omega)) (by omega) hgA) ?_)))))
    rintro _ w70 ⟨E71, rfl⟩
    have E71 := grown_of_below E71
    have z_w70 := E71.size
    have hr := hr.keep0 E71
    have hTA := hTA.keepG (Gr.of0 E71 NoB) (fun _ _ h => h)
    have hTB := hTB.keepG (Gr.of0 E71 NoB) (fun _ _ h => h)
    have hB66 := hB66.keep0 E71
    have hb := below_step0 hb E71 hb.size
    refine op_move (ev_hit hN55 rfl) (op_extract (ev_hit hN55 rfl) rfl ?_)
    refine op_extract (ev_hit hN55 rfl) rfl ?_
    refine op_alloc (cs := [(Value.int .i64 0), (Value.int .i64 0)]) zero36 rfl ?_
    intro w72 b73 lo_b73 hi_b73 hB75 E74
    have dj76 : ¬ FA b73 := fun hf => by have := (hTA.lt _ hf).2; omega
    have dj77 : ¬ FB b73 := fun hf => by have := (hTB.lt _ hf).2; omega
    have z_w72 := E74.size
    have hr := hr.keep0 E74
    have hTA := hTA.keepG (Gr.of0 E74 NoB) (fun _ _ h => h)
    have hTB := hTB.keepG (Gr.of0 E74 NoB) (fun _ _ h => h)
    have hB66 := hB66.keep0 E74
    have hb := below_step0 hb E74 hb.size
    have hB75_old := hB75
    refine op_store (vs := [(Value.int .i64 ((j : Nat) : Int)), (Value.int .i64 ((l.getD j 0).toNat : Int))]) (cs' := [(Value.int .i64 ((j : Nat) : Int)), (Value.int .i64 ((l.getD j 0).toNat : Int))]) size36 (ev_hit hN55 rfl) (ev_hit hN55 rfl) rfl rfl rfl hB75 (Nat.le_of_ble_eq_true rfl) rfl ?_
    intro w80 hB75 E81
    have z_w80 := E81.size
    have hr := hr.keep E81 (fun k hk => .inr (by simp at hk; omega))
    have hTA := hTA.keepG (Gr.of E81) (Dj.one dj76)
    have hTB := hTB.keepG (Gr.of E81) (Dj.one dj77)
    have hB66 := hB66.keep E81 (fun hh => hB66.ne hB75_old (by decide) (Option.some.inj hh))
    have hb := below_step1 hb E81 hb.size (by omega)
    refine op_assign (ev_hit hN55 rfl) ?_
    refine reg_nil (hK69 _ _ (seq_any fun K82 hK82 => one_reg (op_move (ev_base hN55 rfl s55_4) (op_move (ev_hit hN55 rfl) (op_fn (vs := [(ptr p14 0), (Value.slice (some ⟨b64, 0, none⟩) 1 1)]) ok19 ⟨(ev_hit hN55 rfl), ⟨(ev_hit hN55 rfl), trivial⟩⟩ (getLsSE (x := [(b8 (l.getD i 0))]) (g := [(b8 (l.getD i 0))]) hTB (fun q hq => by rw [hshB q hq]; decide) ((RdC.ofBx (sz := 1) (n := 1) hB66 rfl (by decide)).mono (Nat.zero_le _) (by have := hB66.lt; omega)) (by omega) hgB) ?_)))))
    rintro _ w83 ⟨E84, rfl⟩
    have E84 := grown_of_below E84
    have z_w83 := E84.size
    have hr := hr.keep0 E84
    have hTA := hTA.keepG (Gr.of0 E84 NoB) (fun _ _ h => h)
    have hTB := hTB.keepG (Gr.of0 E84 NoB) (fun _ _ h => h)
    have hB66 := hB66.keep0 E84
    have hB75 := hB75.keep0 E84
    have hb := below_step0 hb E84 hb.size
    refine op_move (ev_hit hN55 rfl) (op_extract (ev_hit hN55 rfl) rfl ?_)
    refine op_extract (ev_hit hN55 rfl) rfl ?_
    refine op_assign (ev_hit hN55 rfl) ?_
    refine op_assign (ev_hit hN55 rfl) ?_
    refine reg_nil (hK82 _ _ (seq_any fun K85 hK85 => ?_))
    by_cases g81 : [(b8 (l.getD i 0))] ≠ [(b8 (l.getD i 0))]
    · -- 81T
     exact absurd rfl g81
    · -- 81F
     by_cases g92 : ((b8 (l.getD j 0)).toNat : Int) ≠ ((b8 (l.getD i 0)).toNat : Int)
     · -- 92T
      exfalso; exact g92 (by rw [hjb])
     · -- 92F
      by_cases g97 : ((j : Nat) : Int) < 0
      · -- 97T
       exfalso; omega
      · -- 97F
       by_cases g104 : ((l.length : Nat) : Int) ≤ ((j : Nat) : Int)
       · -- 104T
        exfalso; omega
       · -- 104F
        by_cases g110 : ((j : Nat) : Int) < ((i : Nat) : Int)
        · -- 110T
         exfalso; omega
        · -- 110F
         refine reg_split (hd := [_, _, _, _, _, _, _, _, _, _, _, _, _, _, _, _, _, _, _, _, _, _, _, _, _, _, _, _, _, _, _, _, _, _, _, _, _, _, _, _, _, _, _, _, _, _, _, _, _, _, _, _, _, _, _, _, _, _, _, _, _, _, _, _]) (tl := _) 64 mixed (by kernel_rfl) rfl rfl ?_
         refine any_quiet (Φ := phiL [(fun uz _ => uz = (Value.bool true)), (fun uz _ => uz = (Value.bool false)), (fun uz _ => uz = (Value.bool false)), (fun uz _ => uz = (Value.bool true)), (fun uz _ => uz = (Value.bool false)), (fun uz _ => uz = (Value.bool false)), (fun uz _ => uz = (Value.bool false)), (fun uz _ => uz = (Value.string (bs [(b8 (l.getD i 0))]))), (fun uz _ => uz = (Value.slice (some ⟨b64, 0, none⟩) 1 1)), (fun uz _ => uz = (Value.string (bs [(b8 (l.getD i 0))]))), (fun uz _ => uz = (Value.bool false)), (fun uz _ => uz = (Value.bool false)), (fun uz _ => uz = (Value.bool false)), (fun uz _ => uz = (ptr b73 1)), (fun uz _ => uz = (Value.int .i64 ((l.getD j 0).toNat : Int))), (fun uz _ => uz = (Value.int .u8 ((b8 (l.getD j 0)).toNat : Int))), (fun uz _ => uz = vl), (fun uz _ => uz = (Value.int .i64 ((i : Nat) : Int))), (fun uz w' => ∃ (b86 : (Nat)) (o87 : (Nat)), uz = (ptr b86 o87) ∧ PtC w' 0 w.heap.size b86 o87 [(Value.int .u16 ((l.getD i 0).toNat : Int))]), (fun uz _ => uz = (Value.int .u16 ((l.getD i 0).toNat : Int))), (fun uz _ => uz = (Value.int .u8 ((b8 (l.getD i 0)).toNat : Int))), (fun uz _ => uz = (Value.bool false)), (fun uz _ => uz = (Value.bool false)), (fun uz _ => uz = (Value.bool false)), (fun uz _ => uz = (ptr b73 0)), (fun uz _ => uz = (Value.int .i64 ((j : Nat) : Int))), (fun uz _ => uz = (Value.bool false)), (fun uz _ => uz = (Value.bool false)), (fun uz _ => uz = (Value.bool false)), (fun uz _ => uz = (ptr b73 0)), (fun uz _ => uz = (Value.int .i64 ((j : Nat) : Int))), (fun uz _ => uz = vl), (fun uz _ => uz = (Value.int .i64 ((l.length : Nat) : Int))), (fun uz _ => uz = (Value.bool false)), (fun uz _ => uz = (Value.bool false)), (fun uz _ => uz = (Value.bool false)), (fun uz _ => uz = (ptr b73 0)), (fun uz _ => uz = (Value.int .i64 ((j : Nat) : Int))), (fun uz _ => uz = (Value.int .i64 ((i : Nat) : Int))), (fun uz _ => uz = (Value.bool false)), (fun uz _ => uz = (Value.bool false)), (fun uz _ => uz = undef), (fun uz _ => uz = undef), (fun uz _ => uz = undef), (fun uz _ => uz = undef), (fun uz _ => uz = undef), (fun uz _ => uz = undef), (fun uz _ => uz = undef), (fun uz _ => uz = undef), (fun uz _ => uz = undef), (fun uz _ => uz = undef), (fun uz _ => uz = undef), (fun uz _ => uz = undef), (fun uz _ => uz = (Value.bool false)), (fun uz _ => uz = (Value.bool false)), (fun uz _ => uz = undef), (fun uz _ => uz = undef), (fun uz _ => uz = undef), (fun uz _ => uz = undef), (fun uz _ => uz = undef), (fun uz _ => uz = undef), (fun uz _ => uz = undef), (fun uz _ => uz = undef), (fun uz _ => uz = undef)]) (by kernel_rfl) (by kernel_rfl) (by kernel_rfl) hN55 (StL.get (StL.eq (StL.eq (StL.eq (StL.eq (StL.eq (StL.eq (StL.eq (StL.eq (StL.eq (StL.eq (StL.eq (StL.eq (StL.eq (StL.eq (StL.eq (StL.eq (StL.eq (StL.eq (StL.cons (fun u w1 w2 E h => by obtain ⟨x0, x1, hv, f0⟩ := h; exact ⟨x0, x1, hv, f0.keep0 E⟩) (StL.eq (StL.eq (StL.eq (StL.eq (StL.eq (StL.eq (StL.eq (StL.eq (StL.eq (StL.eq (StL.eq (StL.eq (StL.eq (StL.eq (StL.eq (StL.eq (StL.eq (StL.eq (StL.eq (StL.eq (StL.eq (StL.eq (StL.eq (StL.eq (StL.eq (StL.eq (StL.eq (StL.eq (StL.eq (StL.eq (StL.eq (StL.eq (StL.eq (StL.eq (StL.eq (StL.eq (StL.eq (StL.eq (StL.eq (StL.eq (StL.eq (StL.eq (StL.eq (StL.eq (StL.eq (StL.nil _)))))))))))))))))))))))))))))))))))))))))))))))))))))))))))))))))) (ObL.get (s := 64) (ObL.cons ?_ (ObL.cons ?_ (ObL.cons ?_ (ObL.cons ?_ (ObL.cons ?_ (ObL.cons ?_ (ObL.cons ?_ (ObL.cons ?_ (ObL.cons ?_ (ObL.cons ?_ (ObL.cons ?_ (ObL.cons ?_ (ObL.cons ?_ (ObL.cons ?_ (ObL.cons ?_ (ObL.cons ?_ (ObL.cons ?_ (ObL.cons ?_ (ObL.cons ?_ (ObL.cons ?_ (ObL.cons ?_ (ObL.cons ?_ (ObL.cons ?_ (ObL.cons ?_ (ObL.cons ?_ (ObL.cons ?_ (ObL.cons ?_ (ObL.cons ?_ (ObL.cons ?_ (ObL.cons ?_ (ObL.cons ?_ (ObL.cons ?_ (ObL.cons ?_ (ObL.cons ?_ (ObL.cons ?_ (ObL.cons ?_ (ObL.cons ?_ (ObL.cons ?_ (ObL.cons ?_ (ObL.cons ?_ (ObL.cons ?_ (ObL.cons ?_ (ObL.cons ?_ (ObL.cons ?_ (ObL.cons ?_ (ObL.cons ?_ (ObL.cons ?_ (ObL.cons ?_ (ObL.cons ?_ (ObL.cons ?_ (ObL.cons ?_ (ObL.cons ?_ (ObL.cons ?_ (ObL.cons ?_ (ObL.cons ?_ (ObL.cons ?_ (ObL.cons ?_ (ObL.cons ?_ (ObL.cons ?_ (ObL.cons ?_ (ObL.cons ?_ (ObL.cons ?_ (ObL.cons ?_ (ObL.cons ?_ (ObL.nil))))))))))))))))))))))))))))))))))))))))))))))))))))))))))))))))) rfl) ?_
         ·
          intro aA wA hNA hRA hbsA hdpA
          have qA_10 := (hbsA 10 rfl).trans (sl_hit hN55 rfl)
          refine op_move (ev_base hNA rfl qA_10) ?_
          exact obN_end rfl rfl (grown_refl _ _)
         ·
          intro aA wA hNA hRA hbsA hdpA
          have qA_71 : Sl aA 71 (Value.bool true) := hdpA 0 _ 71 (by kernel_rfl) rfl rfl
          refine op_not (ev_base hNA rfl qA_71) ?_
          exact obN_end rfl rfl (grown_refl _ _)
         ·
          intro aA wA hNA hRA hbsA hdpA
          have qA_72 : Sl aA 72 (Value.bool false) := hdpA 1 _ 72 (by kernel_rfl) rfl rfl
          refine op_move (ev_base hNA rfl qA_72) ?_
          exact obN_end rfl rfl (grown_refl _ _)
         ·
          intro aA wA hNA hRA hbsA hdpA
          have qA_12 := (hbsA 12 rfl).trans (sl_hit hN55 rfl)
          have qA_73 : Sl aA 73 (Value.bool false) := hdpA 2 _ 73 (by kernel_rfl) rfl rfl
          refine g_true (j := 2) (dj := 73) (b := false) rfl rfl rfl (ev_base hNA rfl qA_73) ?_
          refine op_move (ev_base hNA rfl qA_12) ?_
          exact obN_end rfl rfl (grown_refl _ _)
         ·
          intro aA wA hNA hRA hbsA hdpA
          have qA_74 : Sl aA 74 (Value.bool true) := hdpA 3 _ 74 (by kernel_rfl) rfl rfl
          have qA_73 : Sl aA 73 (Value.bool false) := hdpA 2 _ 73 (by kernel_rfl) rfl rfl
          refine g_true (j := 2) (dj := 73) (b := false) rfl rfl rfl (ev_base hNA rfl qA_73) ?_
          refine op_not (ev_base hNA rfl qA_74) ?_
          exact obN_end rfl rfl (grown_refl _ _)
         ·
          intro aA wA hNA hRA hbsA hdpA
          have qA_73 : Sl aA 73 (Value.bool false) := hdpA 2 _ 73 (by kernel_rfl) rfl rfl
          have qA_75 : Sl aA 75 (Value.bool false) := hdpA 4 _ 75 (by kernel_rfl) rfl rfl
          refine op_pick_f (ev_base hNA rfl qA_73) (ev_base hNA rfl qA_75) ?_
          exact obN_end rfl rfl (grown_refl _ _)
         ·
          intro aA wA hNA hRA hbsA hdpA
          have qA_76 : Sl aA 76 (Value.bool false) := hdpA 5 _ 76 (by kernel_rfl) rfl rfl
          refine op_move (ev_base hNA rfl qA_76) ?_
          exact obN_end rfl rfl (grown_refl _ _)
         ·
          intro aA wA hNA hRA hbsA hdpA
          have qA_11 := (hbsA 11 rfl).trans (sl_hit hN55 rfl)
          have qA_77 : Sl aA 77 (Value.bool false) := hdpA 6 _ 77 (by kernel_rfl) rfl rfl
          refine g_true (j := 6) (dj := 77) (b := false) rfl rfl rfl (ev_base hNA rfl qA_77) ?_
          refine op_move (ev_base hNA rfl qA_11) ?_
          exact obN_end rfl rfl (grown_refl _ _)
         ·
          intro aA wA hNA hRA hbsA hdpA
          have qA_8 := (hbsA 8 rfl).trans (sl_hit hN55 rfl)
          have qA_77 : Sl aA 77 (Value.bool false) := hdpA 6 _ 77 (by kernel_rfl) rfl rfl
          refine g_true (j := 6) (dj := 77) (b := false) rfl rfl rfl (ev_base hNA rfl qA_77) ?_
          refine op_move (ev_base hNA rfl qA_8) ?_
          exact obN_end rfl rfl (grown_refl _ _)
         ·
          intro aA wA hNA hRA hbsA hdpA
          have hRA : w83.grownBy wA none := hRA
          have z_wA := hRA.size
          have hB66 := hB66.keep0 hRA
          have qA_79 : Sl aA 79 (Value.slice (some ⟨b64, 0, none⟩) 1 1) := hdpA 8 _ 79 (by kernel_rfl) rfl rfl
          have qA_77 : Sl aA 77 (Value.bool false) := hdpA 6 _ 77 (by kernel_rfl) rfl rfl
          clear hbsA hdpA
          refine g_true (j := 6) (dj := 77) (b := false) rfl rfl rfl (ev_base hNA rfl qA_77) ?_
          refine op_str_of (bl := [(b8 (l.getD i 0))]) Try.underlying27 Try.underlying5 Try.underlying9 (ev_base hNA rfl qA_79) (RdC.ofBx (sz := 1) (n := 1) hB66 rfl (by decide)) ?_
          exact obN_end rfl rfl (grown_refl _ _)
         ·
          intro aA wA hNA hRA hbsA hdpA
          have qA_78 : Sl aA 78 (Value.string (bs [(b8 (l.getD i 0))])) := hdpA 7 _ 78 (by kernel_rfl) rfl rfl
          have qA_80 : Sl aA 80 (Value.string (bs [(b8 (l.getD i 0))])) := hdpA 9 _ 80 (by kernel_rfl) rfl rfl
          have qA_77 : Sl aA 77 (Value.bool false) := hdpA 6 _ 77 (by kernel_rfl) rfl rfl
          refine g_true (j := 6) (dj := 77) (b := false) rfl rfl rfl (ev_base hNA rfl qA_77) ?_
          refine op_sneqb (b := false) (ev_base hNA rfl qA_78) (ev_base hNA rfl qA_80) (decide_eq_false g81) ?_
          exact obN_end rfl rfl (grown_refl _ _)
         ·
          intro aA wA hNA hRA hbsA hdpA
          have qA_77 : Sl aA 77 (Value.bool false) := hdpA 6 _ 77 (by kernel_rfl) rfl rfl
          have qA_81 : Sl aA 81 (Value.bool false) := hdpA 10 _ 81 (by kernel_rfl) rfl rfl
          refine op_pick_f (ev_base hNA rfl qA_77) (ev_base hNA rfl qA_81) ?_
          exact obN_end rfl rfl (grown_refl _ _)
         ·
          intro aA wA hNA hRA hbsA hdpA
          have qA_82 : Sl aA 82 (Value.bool false) := hdpA 11 _ 82 (by kernel_rfl) rfl rfl
          refine op_move (ev_base hNA rfl qA_82) ?_
          exact obN_end rfl rfl (grown_refl _ _)
         ·
          intro aA wA hNA hRA hbsA hdpA
          have hRA : w83.grownBy wA none := hRA
          have z_wA := hRA.size
          have qA_9 := (hbsA 9 rfl).trans (sl_hit hN55 rfl)
          have qA_83 : Sl aA 83 (Value.bool false) := hdpA 12 _ 83 (by kernel_rfl) rfl rfl
          clear hbsA hdpA
          refine g_true (j := 12) (dj := 83) (b := false) rfl rfl rfl (ev_base hNA rfl qA_83) ?_
          refine op_index_arr (j := 1) arr36 (ev_base hNA rfl qA_9) rfl rfl (by decide) ?_
          exact obN_end rfl rfl (grown_refl _ _)
         ·
          intro aA wA hNA hRA hbsA hdpA
          have hRA : w83.grownBy wA none := hRA
          have z_wA := hRA.size
          have hB75 := hB75.keep0 hRA
          have qA_84 : Sl aA 84 (ptr b73 1) := hdpA 13 _ 84 (by kernel_rfl) rfl rfl
          have qA_83 : Sl aA 83 (Value.bool false) := hdpA 12 _ 83 (by kernel_rfl) rfl rfl
          clear hbsA hdpA
          refine g_true (j := 12) (dj := 83) (b := false) rfl rfl rfl (ev_base hNA rfl qA_83) ?_
          refine op_load1 (v := (Value.int .i64 ((l.getD j 0).toNat : Int))) one3 (ev_base hNA rfl qA_84) (hB75.cell rfl) ?_
          exact obN_end rfl rfl (grown_refl _ _)
         ·
          intro aA wA hNA hRA hbsA hdpA
          have hRA : w83.grownBy wA none := hRA
          have z_wA := hRA.size
          have qA_85 : Sl aA 85 (Value.int .i64 ((l.getD j 0).toNat : Int)) := hdpA 14 _ 85 (by kernel_rfl) rfl rfl
          have qA_83 : Sl aA 83 (Value.bool false) := hdpA 12 _ 83 (by kernel_rfl) rfl rfl
          clear hbsA hdpA
          refine g_true (j := 12) (dj := 83) (b := false) rfl rfl rfl (ev_base hNA rfl qA_83) ?_
          refine op_conv (r := ((b8 (l.getD j 0)).toNat : Int)) (ev_base hNA rfl qA_85) us3 Try.underlying5 conv_u8 ?_
          exact obN_end rfl rfl (grown_refl _ _)
         ·
          intro aA wA hNA hRA hbsA hdpA
          have qA_0 := (hbsA 0 rfl).trans (sl_base hN55 rfl s55_0)
          have qA_83 : Sl aA 83 (Value.bool false) := hdpA 12 _ 83 (by kernel_rfl) rfl rfl
          refine g_true (j := 12) (dj := 83) (b := false) rfl rfl rfl (ev_base hNA rfl qA_83) ?_
          refine op_move (ev_base hNA rfl qA_0) ?_
          exact obN_end rfl rfl (grown_refl _ _)
         ·
          intro aA wA hNA hRA hbsA hdpA
          have qA_7 := (hbsA 7 rfl).trans (sl_base hN55 rfl s55_7)
          have qA_83 : Sl aA 83 (Value.bool false) := hdpA 12 _ 83 (by kernel_rfl) rfl rfl
          refine g_true (j := 12) (dj := 83) (b := false) rfl rfl rfl (ev_base hNA rfl qA_83) ?_
          refine op_move (ev_base hNA rfl qA_7) ?_
          exact obN_end rfl rfl (grown_refl _ _)
         ·
          intro aA wA hNA hRA hbsA hdpA
          have hRA : w83.grownBy wA none := hRA
          have z_wA := hRA.size
          have hr := hr.keep0 hRA
          have qA_87 : Sl aA 87 vl := hdpA 16 _ 87 (by kernel_rfl) rfl rfl
          have qA_88 : Sl aA 88 (Value.int .i64 ((i : Nat) : Int)) := hdpA 17 _ 88 (by kernel_rfl) rfl rfl
          have qA_83 : Sl aA 83 (Value.bool false) := hdpA 12 _ 83 (by kernel_rfl) rfl rfl
          clear hbsA hdpA
          refine g_true (j := 12) (dj := 83) (b := false) rfl rfl rfl (ev_base hNA rfl qA_83) ?_
          refine op_index_rd slt33 (ev_base hNA rfl qA_87) hr (ev_base hNA rfl qA_88) (by omega) (by omega) ?_
          intro b86 o87 h0b86 h1b86 hc88
          have hp89 : PtC wA 0 w.heap.size b86 o87 [(Value.int .u16 ((l.getD i 0).toNat : Int))] := ⟨by omega, by omega, fun j u hu => hc88 j u (by have := (List.getElem?_eq_some_iff.1 hu).1; simpa using this) ((fun j u hu => one_at (el_u16 (i := i) (by omega) (by omega)) hu) j u hu)⟩
          exact obN_end rfl ⟨b86, o87, rfl, hp89⟩ (grown_refl _ _)
         ·
          intro aA wA hNA hRA hbsA hdpA
          have hRA : w83.grownBy wA none := hRA
          have z_wA := hRA.size
          obtain ⟨b86, o87, qA_89, hp89⟩ := hdpA 18 _ 89 (by kernel_rfl) rfl rfl
          have hp89 : PtC wA 0 w.heap.size b86 o87 [(Value.int .u16 ((l.getD i 0).toNat : Int))] := hp89
          have qA_83 : Sl aA 83 (Value.bool false) := hdpA 12 _ 83 (by kernel_rfl) rfl rfl
          clear hbsA hdpA
          refine g_true (j := 12) (dj := 83) (b := false) rfl rfl rfl (ev_base hNA rfl qA_83) ?_
          refine op_load1 (v := (Value.int .u16 ((l.getD i 0).toNat : Int))) one37 (ev_base hNA rfl qA_89) (hp89.2.2 0 _ rfl) ?_
          exact obN_end rfl rfl (grown_refl _ _)
         ·
          intro aA wA hNA hRA hbsA hdpA
          have hRA : w83.grownBy wA none := hRA
          have z_wA := hRA.size
          have qA_90 : Sl aA 90 (Value.int .u16 ((l.getD i 0).toNat : Int)) := hdpA 19 _ 90 (by kernel_rfl) rfl rfl
          have qA_83 : Sl aA 83 (Value.bool false) := hdpA 12 _ 83 (by kernel_rfl) rfl rfl
          clear hbsA hdpA
          refine g_true (j := 12) (dj := 83) (b := false) rfl rfl rfl (ev_base hNA rfl qA_83) ?_
          refine op_conv (r := ((b8 (l.getD i 0)).toNat : Int)) (ev_base hNA rfl qA_90) us37 Try.underlying5 conv_u8 ?_
          exact obN_end rfl rfl (grown_refl _ _)
         ·
          intro aA wA hNA hRA hbsA hdpA
          have qA_86 : Sl aA 86 (Value.int .u8 ((b8 (l.getD j 0)).toNat : Int)) := hdpA 15 _ 86 (by kernel_rfl) rfl rfl
          have qA_91 : Sl aA 91 (Value.int .u8 ((b8 (l.getD i 0)).toNat : Int)) := hdpA 20 _ 91 (by kernel_rfl) rfl rfl
          have qA_83 : Sl aA 83 (Value.bool false) := hdpA 12 _ 83 (by kernel_rfl) rfl rfl
          refine g_true (j := 12) (dj := 83) (b := false) rfl rfl rfl (ev_base hNA rfl qA_83) ?_
          refine op_cmp (b := false) (ev_base hNA rfl qA_86) (ev_base hNA rfl qA_91) (b_neq (decide_eq_false g92)) ?_
          exact obN_end rfl rfl (grown_refl _ _)
         ·
          intro aA wA hNA hRA hbsA hdpA
          have qA_83 : Sl aA 83 (Value.bool false) := hdpA 12 _ 83 (by kernel_rfl) rfl rfl
          have qA_92 : Sl aA 92 (Value.bool false) := hdpA 21 _ 92 (by kernel_rfl) rfl rfl
          refine op_pick_f (ev_base hNA rfl qA_83) (ev_base hNA rfl qA_92) ?_
          exact obN_end rfl rfl (grown_refl _ _)
         ·
          intro aA wA hNA hRA hbsA hdpA
          have qA_93 : Sl aA 93 (Value.bool false) := hdpA 22 _ 93 (by kernel_rfl) rfl rfl
          refine op_move (ev_base hNA rfl qA_93) ?_
          exact obN_end rfl rfl (grown_refl _ _)
         ·
          intro aA wA hNA hRA hbsA hdpA
          have hRA : w83.grownBy wA none := hRA
          have z_wA := hRA.size
          have qA_9 := (hbsA 9 rfl).trans (sl_hit hN55 rfl)
          have qA_94 : Sl aA 94 (Value.bool false) := hdpA 23 _ 94 (by kernel_rfl) rfl rfl
          clear hbsA hdpA
          refine g_true (j := 23) (dj := 94) (b := false) rfl rfl rfl (ev_base hNA rfl qA_94) ?_
          refine op_index_arr (j := 0) arr36 (ev_base hNA rfl qA_9) rfl rfl (by decide) ?_
          exact obN_end rfl rfl (grown_refl _ _)
         ·
          intro aA wA hNA hRA hbsA hdpA
          have hRA : w83.grownBy wA none := hRA
          have z_wA := hRA.size
          have hB75 := hB75.keep0 hRA
          have qA_95 : Sl aA 95 (ptr b73 0) := hdpA 24 _ 95 (by kernel_rfl) rfl rfl
          have qA_94 : Sl aA 94 (Value.bool false) := hdpA 23 _ 94 (by kernel_rfl) rfl rfl
          clear hbsA hdpA
          refine g_true (j := 23) (dj := 94) (b := false) rfl rfl rfl (ev_base hNA rfl qA_94) ?_
          refine op_load1 (v := (Value.int .i64 ((j : Nat) : Int))) one3 (ev_base hNA rfl qA_95) (hB75.cell rfl) ?_
          exact obN_end rfl rfl (grown_refl _ _)
         ·
          intro aA wA hNA hRA hbsA hdpA
          have qA_96 : Sl aA 96 (Value.int .i64 ((j : Nat) : Int)) := hdpA 25 _ 96 (by kernel_rfl) rfl rfl
          have qA_94 : Sl aA 94 (Value.bool false) := hdpA 23 _ 94 (by kernel_rfl) rfl rfl
          refine g_true (j := 23) (dj := 94) (b := false) rfl rfl rfl (ev_base hNA rfl qA_94) ?_
          refine op_cmp (b := false) (ev_base hNA rfl qA_96) rfl (b_lss (decide_eq_false g97)) ?_
          exact obN_end rfl rfl (grown_refl _ _)
         ·
          intro aA wA hNA hRA hbsA hdpA
          have qA_94 : Sl aA 94 (Value.bool false) := hdpA 23 _ 94 (by kernel_rfl) rfl rfl
          have qA_97 : Sl aA 97 (Value.bool false) := hdpA 26 _ 97 (by kernel_rfl) rfl rfl
          refine op_pick_f (ev_base hNA rfl qA_94) (ev_base hNA rfl qA_97) ?_
          exact obN_end rfl rfl (grown_refl _ _)
         ·
          intro aA wA hNA hRA hbsA hdpA
          have qA_98 : Sl aA 98 (Value.bool false) := hdpA 27 _ 98 (by kernel_rfl) rfl rfl
          refine op_move (ev_base hNA rfl qA_98) ?_
          exact obN_end rfl rfl (grown_refl _ _)
         ·
          intro aA wA hNA hRA hbsA hdpA
          have hRA : w83.grownBy wA none := hRA
          have z_wA := hRA.size
          have qA_9 := (hbsA 9 rfl).trans (sl_hit hN55 rfl)
          have qA_99 : Sl aA 99 (Value.bool false) := hdpA 28 _ 99 (by kernel_rfl) rfl rfl
          clear hbsA hdpA
          refine g_true (j := 28) (dj := 99) (b := false) rfl rfl rfl (ev_base hNA rfl qA_99) ?_
          refine op_index_arr (j := 0) arr36 (ev_base hNA rfl qA_9) rfl rfl (by decide) ?_
          exact obN_end rfl rfl (grown_refl _ _)
         ·
          intro aA wA hNA hRA hbsA hdpA
          have hRA : w83.grownBy wA none := hRA
          have z_wA := hRA.size
          have hB75 := hB75.keep0 hRA
          have qA_100 : Sl aA 100 (ptr b73 0) := hdpA 29 _ 100 (by kernel_rfl) rfl rfl
          have qA_99 : Sl aA 99 (Value.bool false) := hdpA 28 _ 99 (by kernel_rfl) rfl rfl
          clear hbsA hdpA
          refine g_true (j := 28) (dj := 99) (b := false) rfl rfl rfl (ev_base hNA rfl qA_99) ?_
          refine op_load1 (v := (Value.int .i64 ((j : Nat) : Int))) one3 (ev_base hNA rfl qA_100) (hB75.cell rfl) ?_
          exact obN_end rfl rfl (grown_refl _ _)
         ·
          intro aA wA hNA hRA hbsA hdpA
          have qA_0 := (hbsA 0 rfl).trans (sl_base hN55 rfl s55_0)
          have qA_99 : Sl aA 99 (Value.bool false) := hdpA 28 _ 99 (by kernel_rfl) rfl rfl
          refine g_true (j := 28) (dj := 99) (b := false) rfl rfl rfl (ev_base hNA rfl qA_99) ?_
          refine op_move (ev_base hNA rfl qA_0) ?_
          exact obN_end rfl rfl (grown_refl _ _)
         ·
          intro aA wA hNA hRA hbsA hdpA
          have hRA : w83.grownBy wA none := hRA
          have z_wA := hRA.size
          have hr := hr.keep0 hRA
          have qA_102 : Sl aA 102 vl := hdpA 31 _ 102 (by kernel_rfl) rfl rfl
          have qA_99 : Sl aA 99 (Value.bool false) := hdpA 28 _ 99 (by kernel_rfl) rfl rfl
          clear hbsA hdpA
          refine g_true (j := 28) (dj := 99) (b := false) rfl rfl rfl (ev_base hNA rfl qA_99) ?_
          refine op_len_rd Try.underlying33 (ev_base hNA rfl qA_102) hr ?_
          exact obN_end rfl rfl (grown_refl _ _)
         ·
          intro aA wA hNA hRA hbsA hdpA
          have qA_101 : Sl aA 101 (Value.int .i64 ((j : Nat) : Int)) := hdpA 30 _ 101 (by kernel_rfl) rfl rfl
          have qA_103 : Sl aA 103 (Value.int .i64 ((l.length : Nat) : Int)) := hdpA 32 _ 103 (by kernel_rfl) rfl rfl
          have qA_99 : Sl aA 99 (Value.bool false) := hdpA 28 _ 99 (by kernel_rfl) rfl rfl
          refine g_true (j := 28) (dj := 99) (b := false) rfl rfl rfl (ev_base hNA rfl qA_99) ?_
          refine op_cmp (b := false) (ev_base hNA rfl qA_101) (ev_base hNA rfl qA_103) (b_geq (decide_eq_false g104)) ?_
          exact obN_end rfl rfl (grown_refl _ _)
         ·
          intro aA wA hNA hRA hbsA hdpA
          have qA_99 : Sl aA 99 (Value.bool false) := hdpA 28 _ 99 (by kernel_rfl) rfl rfl
          have qA_104 : Sl aA 104 (Value.bool false) := hdpA 33 _ 104 (by kernel_rfl) rfl rfl
          refine op_pick_f (ev_base hNA rfl qA_99) (ev_base hNA rfl qA_104) ?_
          exact obN_end rfl rfl (grown_refl _ _)
         ·
          intro aA wA hNA hRA hbsA hdpA
          have qA_105 : Sl aA 105 (Value.bool false) := hdpA 34 _ 105 (by kernel_rfl) rfl rfl
          refine op_move (ev_base hNA rfl qA_105) ?_
          exact obN_end rfl rfl (grown_refl _ _)
         ·
          intro aA wA hNA hRA hbsA hdpA
          have hRA : w83.grownBy wA none := hRA
          have z_wA := hRA.size
          have qA_9 := (hbsA 9 rfl).trans (sl_hit hN55 rfl)
          have qA_106 : Sl aA 106 (Value.bool false) := hdpA 35 _ 106 (by kernel_rfl) rfl rfl
          clear hbsA hdpA
          refine g_true (j := 35) (dj := 106) (b := false) rfl rfl rfl (ev_base hNA rfl qA_106) ?_
          refine op_index_arr (j := 0) arr36 (ev_base hNA rfl qA_9) rfl rfl (by decide) ?_
          exact obN_end rfl rfl (grown_refl _ _)
         ·
          intro aA wA hNA hRA hbsA hdpA
          have hRA : w83.grownBy wA none := hRA
          have z_wA := hRA.size
          have hB75 := hB75.keep0 hRA
          have qA_107 : Sl aA 107 (ptr b73 0) := hdpA 36 _ 107 (by kernel_rfl) rfl rfl
          have qA_106 : Sl aA 106 (Value.bool false) := hdpA 35 _ 106 (by kernel_rfl) rfl rfl
          clear hbsA hdpA
          refine g_true (j := 35) (dj := 106) (b := false) rfl rfl rfl (ev_base hNA rfl qA_106) ?_
          refine op_load1 (v := (Value.int .i64 ((j : Nat) : Int))) one3 (ev_base hNA rfl qA_107) (hB75.cell rfl) ?_
          exact obN_end rfl rfl (grown_refl _ _)
         ·
          intro aA wA hNA hRA hbsA hdpA
          have qA_7 := (hbsA 7 rfl).trans (sl_base hN55 rfl s55_7)
          have qA_106 : Sl aA 106 (Value.bool false) := hdpA 35 _ 106 (by kernel_rfl) rfl rfl
          refine g_true (j := 35) (dj := 106) (b := false) rfl rfl rfl (ev_base hNA rfl qA_106) ?_
          refine op_move (ev_base hNA rfl qA_7) ?_
          exact obN_end rfl rfl (grown_refl _ _)
         ·
          intro aA wA hNA hRA hbsA hdpA
          have qA_108 : Sl aA 108 (Value.int .i64 ((j : Nat) : Int)) := hdpA 37 _ 108 (by kernel_rfl) rfl rfl
          have qA_109 : Sl aA 109 (Value.int .i64 ((i : Nat) : Int)) := hdpA 38 _ 109 (by kernel_rfl) rfl rfl
          have qA_106 : Sl aA 106 (Value.bool false) := hdpA 35 _ 106 (by kernel_rfl) rfl rfl
          refine g_true (j := 35) (dj := 106) (b := false) rfl rfl rfl (ev_base hNA rfl qA_106) ?_
          refine op_cmp (b := false) (ev_base hNA rfl qA_108) (ev_base hNA rfl qA_109) (b_lss (decide_eq_false g110)) ?_
          exact obN_end rfl rfl (grown_refl _ _)
         ·
          intro aA wA hNA hRA hbsA hdpA
          have qA_110 : Sl aA 110 (Value.bool false) := hdpA 39 _ 110 (by kernel_rfl) rfl rfl
          have qA_106 : Sl aA 106 (Value.bool false) := hdpA 35 _ 106 (by kernel_rfl) rfl rfl
          refine g_true (j := 35) (dj := 106) (b := false) rfl rfl rfl (ev_base hNA rfl qA_106) ?_
          refine op_move (ev_base hNA rfl qA_110) ?_
          exact obN_end rfl rfl (grown_refl _ _)
         ·
          intro aA wA hNA hRA hbsA hdpA
          have qA_111 : Sl aA 111 (Value.bool false) := hdpA 40 _ 111 (by kernel_rfl) rfl rfl
          refine g_false (j := 40) (dj := 111) (b := true) rfl rfl rfl (ev_base hNA rfl qA_111) rfl rfl ?_
          exact obN_end rfl rfl (grown_refl _ _)
         ·
          intro aA wA hNA hRA hbsA hdpA
          have hRA : w83.grownBy wA none := hRA
          have z_wA := hRA.size
          have qA_111 : Sl aA 111 (Value.bool false) := hdpA 40 _ 111 (by kernel_rfl) rfl rfl
          clear hbsA hdpA
          refine g_false (j := 40) (dj := 111) (b := true) rfl rfl rfl (ev_base hNA rfl qA_111) rfl rfl ?_
          exact obN_end rfl rfl (grown_refl _ _)
         ·
          intro aA wA hNA hRA hbsA hdpA
          have hRA : w83.grownBy wA none := hRA
          have z_wA := hRA.size
          have qA_113 : Sl aA 113 undef := hdpA 42 _ 113 (by kernel_rfl) rfl rfl
          have qA_111 : Sl aA 111 (Value.bool false) := hdpA 40 _ 111 (by kernel_rfl) rfl rfl
          clear hbsA hdpA
          refine g_false (j := 40) (dj := 111) (b := true) rfl rfl rfl (ev_base hNA rfl qA_111) rfl rfl ?_
          exact obN_end rfl rfl (grown_refl _ _)
         ·
          intro aA wA hNA hRA hbsA hdpA
          have hRA : w83.grownBy wA none := hRA
          have z_wA := hRA.size
          have qA_112 : Sl aA 112 undef := hdpA 41 _ 112 (by kernel_rfl) rfl rfl
          have qA_114 : Sl aA 114 undef := hdpA 43 _ 114 (by kernel_rfl) rfl rfl
          have qA_111 : Sl aA 111 (Value.bool false) := hdpA 40 _ 111 (by kernel_rfl) rfl rfl
          clear hbsA hdpA
          refine g_false (j := 40) (dj := 111) (b := true) rfl rfl rfl (ev_base hNA rfl qA_111) rfl rfl ?_
          exact obN_end rfl rfl (grown_refl _ _)
         ·
          intro aA wA hNA hRA hbsA hdpA
          have hRA : w83.grownBy wA none := hRA
          have z_wA := hRA.size
          have qA_115 : Sl aA 115 undef := hdpA 44 _ 115 (by kernel_rfl) rfl rfl
          have qA_111 : Sl aA 111 (Value.bool false) := hdpA 40 _ 111 (by kernel_rfl) rfl rfl
          clear hbsA hdpA
          refine g_false (j := 40) (dj := 111) (b := true) rfl rfl rfl (ev_base hNA rfl qA_111) rfl rfl ?_
          exact obN_end rfl rfl (grown_refl _ _)
         ·
          intro aA wA hNA hRA hbsA hdpA
          have hRA : w83.grownBy wA none := hRA
          have z_wA := hRA.size
          have qA_116 : Sl aA 116 undef := hdpA 45 _ 116 (by kernel_rfl) rfl rfl
          have qA_111 : Sl aA 111 (Value.bool false) := hdpA 40 _ 111 (by kernel_rfl) rfl rfl
          clear hbsA hdpA
          refine g_false (j := 40) (dj := 111) (b := true) rfl rfl rfl (ev_base hNA rfl qA_111) rfl rfl ?_
          exact obN_end rfl rfl (grown_refl _ _)
         ·
          intro aA wA hNA hRA hbsA hdpA
          have qA_111 : Sl aA 111 (Value.bool false) := hdpA 40 _ 111 (by kernel_rfl) rfl rfl
          refine g_false (j := 40) (dj := 111) (b := true) rfl rfl rfl (ev_base hNA rfl qA_111) rfl rfl ?_
          exact obN_end rfl rfl (grown_refl _ _)
         ·
          intro aA wA hNA hRA hbsA hdpA
          have qA_111 : Sl aA 111 (Value.bool false) := hdpA 40 _ 111 (by kernel_rfl) rfl rfl
          refine g_false (j := 40) (dj := 111) (b := true) rfl rfl rfl (ev_base hNA rfl qA_111) rfl rfl ?_
          exact obN_end rfl rfl (grown_refl _ _)
         ·
          intro aA wA hNA hRA hbsA hdpA
          have hRA : w83.grownBy wA none := hRA
          have z_wA := hRA.size
          have qA_118 : Sl aA 118 undef := hdpA 47 _ 118 (by kernel_rfl) rfl rfl
          have qA_119 : Sl aA 119 undef := hdpA 48 _ 119 (by kernel_rfl) rfl rfl
          have qA_111 : Sl aA 111 (Value.bool false) := hdpA 40 _ 111 (by kernel_rfl) rfl rfl
          clear hbsA hdpA
          refine g_false (j := 40) (dj := 111) (b := true) rfl rfl rfl (ev_base hNA rfl qA_111) rfl rfl ?_
          exact obN_end rfl rfl (grown_refl _ _)
         ·
          intro aA wA hNA hRA hbsA hdpA
          have hRA : w83.grownBy wA none := hRA
          have z_wA := hRA.size
          have qA_120 : Sl aA 120 undef := hdpA 49 _ 120 (by kernel_rfl) rfl rfl
          have qA_111 : Sl aA 111 (Value.bool false) := hdpA 40 _ 111 (by kernel_rfl) rfl rfl
          clear hbsA hdpA
          refine g_false (j := 40) (dj := 111) (b := true) rfl rfl rfl (ev_base hNA rfl qA_111) rfl rfl ?_
          exact obN_end rfl rfl (grown_refl _ _)
         ·
          intro aA wA hNA hRA hbsA hdpA
          have hRA : w83.grownBy wA none := hRA
          have z_wA := hRA.size
          have qA_121 : Sl aA 121 undef := hdpA 50 _ 121 (by kernel_rfl) rfl rfl
          have qA_111 : Sl aA 111 (Value.bool false) := hdpA 40 _ 111 (by kernel_rfl) rfl rfl
          clear hbsA hdpA
          refine g_false (j := 40) (dj := 111) (b := true) rfl rfl rfl (ev_base hNA rfl qA_111) rfl rfl ?_
          exact obN_end rfl rfl (grown_refl _ _)
         ·
          intro aA wA hNA hRA hbsA hdpA
          have qA_117 : Sl aA 117 undef := hdpA 46 _ 117 (by kernel_rfl) rfl rfl
          have qA_122 : Sl aA 122 undef := hdpA 51 _ 122 (by kernel_rfl) rfl rfl
          have qA_111 : Sl aA 111 (Value.bool false) := hdpA 40 _ 111 (by kernel_rfl) rfl rfl
          refine g_false (j := 40) (dj := 111) (b := true) rfl rfl rfl (ev_base hNA rfl qA_111) rfl rfl ?_
          exact obN_end rfl rfl (grown_refl _ _)
         ·
          intro aA wA hNA hRA hbsA hdpA
          have qA_111 : Sl aA 111 (Value.bool false) := hdpA 40 _ 111 (by kernel_rfl) rfl rfl
          have qA_123 : Sl aA 123 undef := hdpA 52 _ 123 (by kernel_rfl) rfl rfl
          have qA_106 : Sl aA 106 (Value.bool false) := hdpA 35 _ 106 (by kernel_rfl) rfl rfl
          refine g_true (j := 35) (dj := 106) (b := false) rfl rfl rfl (ev_base hNA rfl qA_106) ?_
          refine op_pick_f (ev_base hNA rfl qA_111) rfl ?_
          exact obN_end rfl rfl (grown_refl _ _)
         ·
          intro aA wA hNA hRA hbsA hdpA
          have qA_124 : Sl aA 124 (Value.bool false) := hdpA 53 _ 124 (by kernel_rfl) rfl rfl
          have qA_106 : Sl aA 106 (Value.bool false) := hdpA 35 _ 106 (by kernel_rfl) rfl rfl
          refine g_true (j := 35) (dj := 106) (b := false) rfl rfl rfl (ev_base hNA rfl qA_106) ?_
          refine op_move (ev_base hNA rfl qA_124) ?_
          exact obN_end rfl rfl (grown_refl _ _)
         ·
          intro aA wA hNA hRA hbsA hdpA
          have hRA : w83.grownBy wA none := hRA
          have z_wA := hRA.size
          have qA_125 : Sl aA 125 (Value.bool false) := hdpA 54 _ 125 (by kernel_rfl) rfl rfl
          clear hbsA hdpA
          refine g_false (j := 54) (dj := 125) (b := true) rfl rfl rfl (ev_base hNA rfl qA_125) rfl rfl ?_
          exact obN_end rfl rfl (grown_refl _ _)
         ·
          intro aA wA hNA hRA hbsA hdpA
          have hRA : w83.grownBy wA none := hRA
          have z_wA := hRA.size
          have qA_126 : Sl aA 126 undef := hdpA 55 _ 126 (by kernel_rfl) rfl rfl
          have qA_125 : Sl aA 125 (Value.bool false) := hdpA 54 _ 125 (by kernel_rfl) rfl rfl
          clear hbsA hdpA
          refine g_false (j := 54) (dj := 125) (b := true) rfl rfl rfl (ev_base hNA rfl qA_125) rfl rfl ?_
          exact obN_end rfl rfl (grown_refl _ _)
         ·
          intro aA wA hNA hRA hbsA hdpA
          have qA_125 : Sl aA 125 (Value.bool false) := hdpA 54 _ 125 (by kernel_rfl) rfl rfl
          refine g_false (j := 54) (dj := 125) (b := true) rfl rfl rfl (ev_base hNA rfl qA_125) rfl rfl ?_
          exact obN_end rfl rfl (grown_refl _ _)
         ·
          intro aA wA hNA hRA hbsA hdpA
          have qA_125 : Sl aA 125 (Value.bool false) := hdpA 54 _ 125 (by kernel_rfl) rfl rfl
          refine g_false (j := 54) (dj := 125) (b := true) rfl rfl rfl (ev_base hNA rfl qA_125) rfl rfl ?_
          exact obN_end rfl rfl (grown_refl _ _)
         ·
          intro aA wA hNA hRA hbsA hdpA
          have qA_125 : Sl aA 125 (Value.bool false) := hdpA 54 _ 125 (by kernel_rfl) rfl rfl
          refine g_false (j := 54) (dj := 125) (b := true) rfl rfl rfl (ev_base hNA rfl qA_125) rfl rfl ?_
          exact obN_end rfl rfl (grown_refl _ _)
         ·
          intro aA wA hNA hRA hbsA hdpA
          have hRA : w83.grownBy wA none := hRA
          have z_wA := hRA.size
          have qA_129 : Sl aA 129 undef := hdpA 58 _ 129 (by kernel_rfl) rfl rfl
          have qA_130 : Sl aA 130 undef := hdpA 59 _ 130 (by kernel_rfl) rfl rfl
          have qA_125 : Sl aA 125 (Value.bool false) := hdpA 54 _ 125 (by kernel_rfl) rfl rfl
          clear hbsA hdpA
          refine g_false (j := 54) (dj := 125) (b := true) rfl rfl rfl (ev_base hNA rfl qA_125) rfl rfl ?_
          exact obN_end rfl rfl (grown_refl _ _)
         ·
          intro aA wA hNA hRA hbsA hdpA
          have hRA : w83.grownBy wA none := hRA
          have z_wA := hRA.size
          have qA_131 : Sl aA 131 undef := hdpA 60 _ 131 (by kernel_rfl) rfl rfl
          have qA_125 : Sl aA 125 (Value.bool false) := hdpA 54 _ 125 (by kernel_rfl) rfl rfl
          clear hbsA hdpA
          refine g_false (j := 54) (dj := 125) (b := true) rfl rfl rfl (ev_base hNA rfl qA_125) rfl rfl ?_
          exact obN_end rfl rfl (grown_refl _ _)
         ·
          intro aA wA hNA hRA hbsA hdpA
          have hRA : w83.grownBy wA none := hRA
          have z_wA := hRA.size
          have qA_132 : Sl aA 132 undef := hdpA 61 _ 132 (by kernel_rfl) rfl rfl
          have qA_125 : Sl aA 125 (Value.bool false) := hdpA 54 _ 125 (by kernel_rfl) rfl rfl
          clear hbsA hdpA
          refine g_false (j := 54) (dj := 125) (b := true) rfl rfl rfl (ev_base hNA rfl qA_125) rfl rfl ?_
          exact obN_end rfl rfl (grown_refl _ _)
         ·
          intro aA wA hNA hRA hbsA hdpA
          have hRA : w83.grownBy wA none := hRA
          have z_wA := hRA.size
          have qA_128 : Sl aA 128 undef := hdpA 57 _ 128 (by kernel_rfl) rfl rfl
          have qA_133 : Sl aA 133 undef := hdpA 62 _ 133 (by kernel_rfl) rfl rfl
          have qA_125 : Sl aA 125 (Value.bool false) := hdpA 54 _ 125 (by kernel_rfl) rfl rfl
          clear hbsA hdpA
          refine g_false (j := 54) (dj := 125) (b := true) rfl rfl rfl (ev_base hNA rfl qA_125) rfl rfl ?_
          exact obN_end rfl rfl (grown_refl _ _)
         ·
          intro a90 w90 hN90 hd90 hbs90 hph90 E90
          have hd90 := hd90.trans hd55
          have s90_0 := (hbs90 0 rfl).trans (sl_base hN55 rfl s55_0)
          have s90_3 := (hbs90 3 rfl).trans (sl_base hN55 rfl s55_3)
          have s90_4 := (hbs90 4 rfl).trans (sl_base hN55 rfl s55_4)
          have s90_7 := (hbs90 7 rfl).trans (sl_base hN55 rfl s55_7)
          have s90_106 : Sl a90 106 (Value.bool false) := hph90 35 _ 106 rfl rfl
          have s90_125 : Sl a90 125 (Value.bool false) := hph90 54 _ 125 rfl rfl
          have s90_127 : Sl a90 127 undef := hph90 56 _ 127 rfl rfl
          have s90_134 : Sl a90 134 undef := hph90 63 _ 134 rfl rfl
          clear hbs90 hph90
          have E90 : w83.grownBy w90 none := E90
          have z_w90 := E90.size
          have hr := hr.keep0 E90
          have hTA := hTA.keepG (Gr.of0 E90 NoB) (fun _ _ h => h)
          have hTB := hTB.keepG (Gr.of0 E90 NoB) (fun _ _ h => h)
          have hb := below_step0 hb E90 hb.size
          refine split_end ?_
          refine from_seq (tl := [_, _, _]) (by decide) (by kernel_rfl) rfl ?_
          refine g_false (j := 54) (dj := 125) (b := true) rfl rfl rfl (ev_base hN90 rfl s90_125) rfl rfl ?_
          refine g_true (j := 35) (dj := 106) (b := false) rfl rfl rfl (ev_base hN90 rfl s90_106) ?_
          refine op_pick_f (ev_base hN90 rfl s90_125) rfl ?_
          refine op_pick_f (ev_base hN90 rfl s90_106) (ev_hit hN90 rfl) ?_
          refine reg_nil (hK85 _ _ (wp_cond_false (ev_hit hN90 rfl) ?_))
          refine wp_skip ?_
          refine hK58 _ _ (one_reg (op_move (ev_base hN90 rfl s90_7) (op_add (ev_hit hN90 rfl) rfl (add64 (by omega)) ?_)))
          skip
          refine op_assign (ev_hit hN90 rfl) ?_
          refine reg_nil ?_
          -- round 17F 23F 50T 81F 92F 97F 104F 110F
          exact loop_next _ hN90 hd90 ⟨(i + 1), rfl, (sl_base hN90 rfl s90_0), (sl_base hN90 rfl s90_3), (sl_base hN90 rfl s90_4), (sl_hit hN90 rfl).trans (congrArg (Value.int .i64) (by omega)), (by omega), hb, (by omega), hr, hTA, hTB⟩ (by omega)
   · -- 50F
    refine reg_nil (hK57 _ _ (wp_cond_false (ev_hit hN55 rfl) ?_))
    refine wp_exit (then_exit (then_exit (blk_hit ?_)))
    refine hK53 _ _ (seq_any fun K91 hK91 => one_reg ?_)
    have hKl : MA.length = MB.length := by have := congrArg List.length hK; simpa using this
    refine op_move (ev_base hN55 rfl s55_3) (op_fn (vs := [(ptr p10 0)]) ok21 ⟨(ev_hit hN55 rfl), trivial⟩ (lenLsA hTA (by omega)) ?_)
    rintro _ w92 ⟨E93, rfl⟩
    have E93 := grown_of_below E93
    have z_w92 := E93.size
    have hTB := hTB.keepG (Gr.of0 E93 NoB) (fun _ _ h => h)
    have hb := below_step0 hb E93 hb.size
    refine op_move (ev_base hN55 rfl s55_4) (op_fn (vs := [(ptr p14 0)]) ok15 ⟨(ev_hit hN55 rfl), trivial⟩ (lenLsS hTB (by omega)) ?_)
    rintro _ w94 ⟨E95, rfl⟩
    have E95 := grown_of_below E95
    have z_w94 := E95.size
    have hb := below_step0 hb E95 hb.size
    refine op_eql (ev_hit hN55 rfl) (ev_hit hN55 rfl) (fun c142 => ?_) (fun c142 => ?_)
    · -- 142T
     refine op_assign (ev_hit hN55 rfl) ?_
     refine reg_nil (hK91 _ _ (wp_ret ?_))
     refine ret1 rfl hd55 (ev_hit hN55 rfl) ⟨_, rfl, ?_⟩
     exact ⟨hb, rfl⟩
    · -- 142F
     exfalso; omega

end Go.Proofs.Ytcpfdfejojghbaa

/- What the arguments of the laws are, told by their types. -/
namespace Go.Proofs.Ytcpfdfejojghbaa
open Go.Gx Go.RowKit
theorem rd_le {w : World} {L B sz n : Nat} {v : Value} {cs : List Value} (h : RdC w L B sz v n cs) : n ≤ 9223372036854775807 := by obtain ⟨_, _, _, _, hq, hm, _⟩ := h; exact Nat.le_trans hq hm
theorem cells37 : Try.prog.cellsOf 37 = 1 := by kernel_rfl
theorem flat_u16v (l : List UInt16) : l.flatMap (fun c => [u16v c]) = l.map u16v := by induction l with | nil => rfl | cons c l ih => simp [ih]
theorem dec33 {H : Type} {enc : TypeId × Value → H} {w : World} {base : Nat} {spare : Nat → Bool} {held : Bool} : Dec enc Try.prog w base spare held 33 (fun p : Value × List UInt16 => [p.1]) (fun p => RdC w 0 w.heap.size 1 p.1 p.2.length (p.2.map u16v)) :=
  (Dec.slice Try.underlying33 (by rw [cells37]; decide) (Dec.u16 Try.underlying37) (fun _ _ => by rw [cells37]; rfl)).map fun p hp => ⟨p, rfl, by have hq := hp.1; rwa [cells37, flat_u16v] at hq⟩
end Go.Proofs.Ytcpfdfejojghbaa
