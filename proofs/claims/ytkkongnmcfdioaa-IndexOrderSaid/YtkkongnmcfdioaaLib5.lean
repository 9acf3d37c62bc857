/- Small laws for walks, the fifth part: append, make, copies of texts, cuts. -/
import Derived.Test.YtkkongnmcfdioaaLib4
namespace Go.Gx
open Go.RowKit

def setsAt (cur : Array Value) : Nat → List Value → Array Value
  | _, [] => cur
  | o, v :: r => setsAt (cur.setIfInBounds o v) (o + 1) r
theorem size_setsAt : ∀ (vs : List Value) (o : Nat) (cur : Array Value), (setsAt cur o vs).size = cur.size
  | [], _, _ => rfl
  | v :: r, o, cur => by rw [setsAt, size_setsAt r]; simp
theorem get_setsAt : ∀ (vs : List Value) (o : Nat) (cur : Array Value) (j : Nat), o + vs.length ≤ cur.size → (setsAt cur o vs)[j]? = if o ≤ j ∧ j < o + vs.length then vs[j - o]? else cur[j]?
  | [], o, cur, j, _ => by
    have : ¬ (o ≤ j ∧ j < o + ([] : List Value).length) := by rintro ⟨h1, h2⟩; simp at h2; omega
    rw [if_neg this]; rfl
  | v :: r, o, cur, j, h => by
    rw [setsAt, get_setsAt r (o + 1) _ j (by simp at h ⊢; omega)]
    by_cases h1 : o + 1 ≤ j ∧ j < o + 1 + r.length
    · rw [if_pos h1, if_pos (by simp; omega), show j - o = (j - (o + 1)) + 1 by omega]; rfl
    · rw [if_neg h1]
      by_cases h2 : o = j
      · subst h2
        have : o < cur.size := by simp at h; omega
        rw [if_pos (by simp)]
        simp [this]
      · rw [if_neg (by simp; omega), Array.getElem?_setIfInBounds_ne h2]
theorem heap_setCells (b : Nat) (e : TypeId) (fr : Nat × Nat) : ∀ (vs : List Value) (o : Nat) (w : World) (cur : Array Value), w.heap[b]? = some (.cells cur e fr) → (w.setCells b o vs).heap[b]? = some (.cells (setsAt cur o vs) e fr)
  | [], _, _, _, h => h
  | v :: r, o, w, cur, h => by
    rw [World.setCells]
    refine heap_setCells b e fr r (o + 1) _ (cur.setIfInBounds o v) ?_
    simp [World.setCell, Array.getElem?_modify, h]
theorem heap_setCells_ne (b k : Nat) (hne : k ≠ b) : ∀ (vs : List Value) (o : Nat) (w : World), (w.setCells b o vs).heap[k]? = w.heap[k]?
  | [], _, _ => rfl
  | v :: r, o, w => by
    rw [World.setCells, heap_setCells_ne b k hne r]
    exact Below.heap_setCell w ⟨b, o, none⟩ v k (by simpa using hne)
theorem rest_setCells (b : Nat) : ∀ (vs : List Value) (o : Nat) (w : World), (w.setCells b o vs).os = w.os ∧ (w.setCells b o vs).tape = w.tape ∧ (w.setCells b o vs).output = w.output ∧ (w.setCells b o vs).heap.size = w.heap.size
  | [], _, _ => ⟨rfl, rfl, rfl, rfl⟩
  | v :: r, o, w => by
    obtain ⟨h1, h2, h3, h4⟩ := rest_setCells b r (o + 1) (w.setCell ⟨b, o, none⟩ v)
    exact ⟨h1, h2, h3, by rw [World.setCells, h4]; simp [World.setCell]⟩
theorem grown_setCells (w : World) (b o : Nat) (vs : List Value) : w.grownBy (w.setCells b o vs) (some b) := by
  obtain ⟨h1, h2, h3, h4⟩ := rest_setCells b vs o w
  exact ⟨h1, h2, h3, by omega, fun k _ hk => heap_setCells_ne b k (fun e => hk (by rw [e])) vs o w⟩

theorem run_append_Own {P : Program} {w : World} {base t tx ty e sz by_ n m : Nat} {z v x : Value} {cs news : List Value} (T : SlT P t e z sz by_) (O : Own w base e sz v n cs) (S : Src P sz tx x m news w)
    (h63 : n + m ≤ maxLen) (hbytes : (n + m) * by_ ≤ 140737488355328) (hbase : base ≤ w.heap.size) :
    ∃ v' w', (Builtin.append_ #[t, tx] ty #[v, x]).run P w = .ok v' w' ∧ Own w' base e sz v' (n + m) (cs ++ news) ∧ w.grownBy w' v.ownBlock ∧ (v'.ownBlock = v.ownBlock ∨ ∀ k, v'.ownBlock = some k → w.heap.size ≤ k) := by
  obtain ⟨i, hi, hz, hsize, hby⟩ := info_parts T.info
  subst hsize
  subst hby
  have hpos := T.pos
  have hzs := T.zs
  have hm63 : ((n + m : Nat) : Int) ≤ 9223372036854775807 := by simp only [maxLen] at h63; omega
  have hlen : (cs ++ news).length = (n + m) * i.size := by rw [List.length_append, O.1, S.newsLen, Nat.add_mul]
  have grown : ∀ (old : Nat), 
      Own (w.drew.alloc (.cells ((cs ++ news).toArray ++ Builtin.zeroCells z.cells (grownCap w (n + m) old e - (n + m))) e)) base e i.size (.slice (some ⟨w.heap.size, 0, none⟩) (n + m) (grownCap w (n + m) old e)) (n + m) (cs ++ news) := by
    intro old
    have hge := grownCap_ge w (n + m) old e
    have hcm : grownCap w (n + m) old e ≤ maxLen := grownCap_le_maxLen w (n + m) old e h63
    refine ⟨hlen, .inr ⟨w.heap.size, 0, _, _, (0, 0), rfl, hbase, heap_alloc_new w.drew _, by simp, hge, hcm, ?_, ?_⟩⟩
    · simp only [Array.size_append, List.size_toArray, size_zeroCells, hzs, hlen, ← Nat.add_mul, Nat.zero_add]
      exact Nat.le_of_eq (by congr 1; omega)
    · simp only [Array.toList_append, List.drop_zero]
      rw [← hlen]
      exact List.take_left
  have gg : ∀ (o : Obj) row, w.grownBy (w.drew.alloc o) row := fun o row => ⟨rfl, rfl, rfl, by simp, fun k hk _ => Below.heap_alloc w.drew o k hk⟩
  rcases O.2 with ⟨rfl, rfl⟩ | ⟨g, off, cap, cur, fr, rfl, hbg, hg, hfr, hnc, hcm, hfit, htk⟩
  · have hx : cs = [] := List.eq_nil_of_length_eq_zero (by simpa using O.1)
    subst hx
    by_cases hm : m = 0
    · subst hm
      have hn : news = [] := List.eq_nil_of_length_eq_zero (by simpa using S.newsLen)
      subst hn
      refine ⟨.slice none 0 0, w, ?_, Own.nil w base e i.size, ⟨rfl, rfl, rfl, Nat.le_refl _, fun _ _ _ => rfl⟩, .inl rfl⟩
      rcases S.kind with ⟨e', hk⟩ | hk <;> simp [Builtin.append_, run_underlying T.und, run_underlying hk, sizeOf, typeInfo, hi, S.len, S.cells]
    · have hr := run_append_grow_src (P := P) w t tx ty e i z T.und hi hz none 0 0 [] (by simp [Builtin.firstCells]) x m news S (by omega) (by simpa using hm63) (growslice_fits (by omega) (by simpa using hbytes))
      have G := grown 0
      simp only [Nat.zero_add, List.nil_append] at hr G hlen ⊢
      exact ⟨_, _, hr, G, gg _ _, .inr (by simp [Value.ownBlock])⟩
  · by_cases hroom : n + m ≤ cap
    · have hin : off + n * i.size + news.length ≤ cur.size := by
        rw [S.newsLen, Nat.add_assoc, ← Nat.add_mul]
        exact Nat.le_trans (Nat.add_le_add_left (Nat.mul_le_mul_right _ hroom) _) hfit
      have hr := run_append_room_src (P := P) w t tx ty e i T.und hi g off n cap x m news S hroom
        (fun j hj => by
          have : off + n * i.size + j < cur.size := by omega
          simp [World.cell?, hg, this])
        (fun j hj => by
          have : off + n * i.size + j < cur.size := by omega
          have h2 := hfr _ this
          simp only [World.frozen?, hg]
          rw [← Bool.not_eq_true]
          intro h3
          simp at h3
          exact h2 h3)
      refine ⟨_, _, hr, ⟨hlen, .inr ⟨g, off, cap, _, fr, rfl, hbg, heap_setCells g e fr news _ w cur hg, ?_, hroom, hcm, ?_, ?_⟩⟩, grown_setCells w g _ news, .inl rfl⟩
      · rw [size_setsAt]; exact hfr
      · rw [size_setsAt]; exact hfit
      · apply List.ext_getElem?
        intro j
        rw [List.getElem?_take, List.getElem?_drop]
        have hcsl := O.1
        have hnl := S.newsLen
        have hmul : (n + m) * i.size = n * i.size + m * i.size := Nat.add_mul _ _ _
        by_cases hj : j < (n + m) * i.size
        · rw [if_pos hj, Array.getElem?_toList, get_setsAt _ _ _ _ hin]
          by_cases hj2 : j < n * i.size
          · rw [if_neg (by omega), List.getElem?_append_left (by omega), ← htk, List.getElem?_take, if_pos hj2, List.getElem?_drop, Array.getElem?_toList]
          · rw [if_pos (by omega), List.getElem?_append_right (by omega)]
            congr 1
            omega
        · rw [if_neg hj, List.getElem?_eq_none (by rw [hlen]; omega)]
    · have holds : ∀ j u, cs[j]? = some u → w.drew.cell? ((⟨g, off, none⟩ : Addr).add j) = some u := by
        intro j u hu
        rw [Addr.add_lit]
        have : w.cell? ⟨g, off + j, none⟩ = cur[off + j]? := by simp [World.cell?, hg]
        show w.cell? ⟨g, off + j, none⟩ = some u
        rw [this]
        rw [← htk, List.getElem?_take] at hu
        split at hu
        · simpa using hu
        · cases hu
      have hr := run_append_grow_src (P := P) w t tx ty e i z T.und hi hz (some ⟨g, off, none⟩) n cap cs (run_firstCells_some w.drew i.size n ⟨g, off, none⟩ n cap cs O.1 holds) x m news S (by omega) hm63 (growslice_fits (by omega) hbytes)
      exact ⟨_, _, hr, grown cap, gg _ _, .inr (by simp [Value.ownBlock])⟩

theorem Src.ofRd {P : Program} {w : World} {L B sz tx m e' : Nat} {x : Value} {news : List Value} (hk : P.underlying tx = some (.slice e')) (hp : 0 < sz) (R : RdC w L B sz x m news) (h1 : news.all Value.oneCell' = true) : Src P sz tx x m news w := by
  obtain ⟨hl, ad, c, rfl, _, _, hc⟩ := R
  rcases hc with rfl | ⟨b, off, rfl, _, _, hc⟩
  · have hm : m = 0 := by
      have : m * sz = 0 := by simpa using hl.symm
      rcases Nat.mul_eq_zero.1 this with h | h <;> omega
    subst hm
    cases ad with
    | none => exact Src.ofNil w hk c
    | some q => exact Src.ofSlice w hk q 0 c [] (by simp) (by simp) (by simp)
  · exact Src.ofSlice w hk ⟨b, off, none⟩ m c news hl (fun j u hu => by rw [Addr.add_lit]; exact hc j u hu) (fun u hu => List.all_eq_true.1 h1 u hu)
theorem Src.ofBs {P : Program} {w : World} {tx : Nat} (hk : P.underlying tx = some .string) (s : List UInt8) : Src P 1 tx (.string (bs s)) s.length (s.map u8v) w := by
  have := Src.ofString (P := P) w hk (bs s)
  rw [bs_size] at this
  exact (by simpa [byteCells, bs] using this : Src P 1 tx (.string ⟨s.toArray⟩) s.length (s.map fun b => Value.int .u8 (b.toNat : Int)) w)

section
variable {P : Program} {Q : Exit → Act → World → Prop} {a : Act} {w w' : World} {l : List (Nat × Value)} {ops : Array Oper} {rest : List Oper}
variable {d ty xt yt t e tx base sz by_ n m : Nat} {p : String} {af : Array Edge} {x y : Operand} {v u xv z : Value} {k : IntKind} {cs news : List Value}

theorem op_append (T : SlT P t e z sz by_) (hx : (putsL a l).eval x = v) (O : Own w base e sz v n cs) (hy : (putsL a l).eval y = xv) (S : Src P sz tx xv m news w)
    (h63 : n + m ≤ maxLen) (hbytes : (n + m) * by_ ≤ 140737488355328) (hbase : base ≤ w.heap.size)
    (h : ∀ v' w', Own w' base e sz v' (n + m) (cs ++ news) → w.grownBy w' v.ownBlock → (v'.ownBlock = v.ownBlock ∨ ∀ k, v'.ownBlock = some k → w.heap.size ≤ k) → wpList P ops Q rest (putsL a ((d, v') :: l)) w') :
    wpList P ops Q (⟨some d, .call ⟨.builtin .append, #[x, y], #[t, tx]⟩, ty, p, af, none⟩ :: rest) (putsL a l) w := by
  obtain ⟨v', w', hr, h2, h3, h4⟩ := run_append_Own (ty := ty) T O S h63 hbytes hbase
  exact op_gen rfl (by simp only [execOp, resolve, invoke, builtin, Sem.run_bind, Sem.run_pure, Result.andThen_ok, List.map_toArray, List.map_cons, List.map_nil, hx, hy, hr]) (h v' w' h2 h3 h4)

/-- 'string(b)'. -/
theorem op_str_of {src dst L B : Nat} {bl : List UInt8} (hs : P.underlying src = some (.slice e)) (he : P.underlying e = some (.int .u8)) (hd : P.underlying dst = some .string) (hx : (putsL a l).eval x = v) (R : RdC w L B 1 v n (bl.map u8v))
    (h : wpList P ops Q rest (putsL a ((d, .string (bs bl)) :: l)) w) : wpList P ops Q (⟨some d, .convert src dst x, ty, p, af, none⟩ :: rest) (putsL a l) w := by
  obtain ⟨hl, ad, c, rfl, _, _, hc⟩ := R
  have hn : n = bl.length := by simpa using hl.symm
  subst hn
  refine op_gen rfl ?_ h
  have hr : (convert src dst (.slice ad bl.length c)).run P w = .ok (.string (bs bl)) w := by
    rcases hc with hc | ⟨b, off, rfl, _, _, hc⟩
    · have : bl = [] := by simpa using hc
      subst this
      cases ad with
      | none => exact (run_convert_bytes_string w src dst e none 0 c hs he hd).trans rfl
      | some q => exact run_convert_bytes_back w src dst e q c [] hs he hd (fun j hj => by simp at hj)
    · exact run_convert_bytes_back w src dst e ⟨b, off, none⟩ c bl hs he hd (fun j hj => by rw [Addr.add_lit]; exact hc j _ (by simp [hj, u8v]))
  simp only [execOp, hx, Sem.run_bind, hr, Result.andThen_ok, Sem.run_pure]
/-- '[]byte(s)'. -/
theorem op_bytes_of {src dst : Nat} {bl : List UInt8} (hs : P.underlying src = some .string) (hd : P.underlying dst = some (.slice e)) (he : P.underlying e = some (.int .u8)) (hx : (putsL a l).eval x = .string (bs bl)) (hm : bl.length ≤ maxLen) (hb : base ≤ w.heap.size)
    (h : ∀ v' w', Own w' base e 1 v' bl.length (bl.map u8v) → w.grownBy w' none → (∀ k, v'.ownBlock = some k → w.heap.size ≤ k) → wpList P ops Q rest (putsL a ((d, v') :: l)) w') :
    wpList P ops Q (⟨some d, .convert src dst x, ty, p, af, none⟩ :: rest) (putsL a l) w := by
  have hr := run_bytes_of_string (P := P) w src dst e (bs bl) hs hd he
  refine op_gen (v := .slice (some ⟨w.heap.size, 0, none⟩) (bs bl).size (grownCap w (bs bl).size 0 e)) rfl (by simp only [execOp, hx, Sem.run_bind, hr, Result.andThen_ok, Sem.run_pure]; rfl) (h _ _ ?_ ?_ ?_)
  · rw [bs_size]
    refine ⟨by simp, .inr ⟨w.heap.size, 0, _, _, _, rfl, hb, heap_alloc_new w.drew _, ?_, ?_, ?_, ?_, ?_⟩⟩
    · intro j hj; simp; omega
    · exact grownCap_ge w _ _ _
    · exact grownCap_le_maxLen w _ _ _ hm
    · have := grownCap_ge w bl.length 0 e
      have h2 : (bs bl).data.size = bl.length := bs_size bl
      simp [bytesRow, bs_size, h2]; omega
    · simp [bytesRow, bs, u8v, Function.comp_def]
  · exact ⟨rfl, rfl, rfl, by simp, fun k hk _ => Below.heap_alloc w.drew _ k hk⟩
  · simp [Value.ownBlock]
/-- 'make([]T, n)', T of one cell. -/
theorem op_make {y' : Operand} {k' : IntKind} {by2 : Nat} (T : SlT P t e z 1 by2) (hx : (putsL a l).eval x = .int k (n : Int)) (hy : (putsL a l).eval y = .int k' (n : Int)) (hz : z.cells = #[u]) (hn : n ≤ 140737488355328) (hbytes : by2 * n ≤ 281474976710656) (hb : base ≤ w.heap.size)
    (h : ∀ v' w', Own w' base e 1 v' n (List.replicate n u) → w.grownBy w' none → (∀ k, v'.ownBlock = some k → w.heap.size ≤ k) → wpList P ops Q rest (putsL a ((d, v') :: l)) w') :
    wpList P ops Q (⟨some d, .makeSlice t x y, ty, p, af, none⟩ :: rest) (putsL a l) w := by
  obtain ⟨i, hi, hz0, hz1, hz2⟩ := info_parts T.info
  have h63 : n ≤ maxLen := by unfold maxLen; omega
  have hr := run_make (P := P) w t e i z T.und hi hz0 k k' n n (by omega) (Int.le_refl _) (by rw [hz2]; have : ((by2 * n : Nat) : Int) ≤ 281474976710656 := by omega
                                                                                              rwa [Int.natCast_mul] at this) (by omega)
  simp only [Int.toNat_natCast, hz1, Nat.mul_one, hz] at hr
  refine op_gen (v := .slice (some ⟨w.heap.size, 0, none⟩) n n) rfl (by simp only [execOp, hx, hy, Sem.run_bind, hr, Result.andThen_ok, Sem.run_pure]; rfl) (h _ _ ?_ ?_ ?_)
  · exact ⟨by simp, .inr ⟨w.heap.size, 0, n, _, (0, 0), rfl, hb, heap_alloc_new w _, by simp, Nat.le_refl _, h63, by simp [size_madeCells], by simp [toList_madeCells_one]⟩⟩
  · exact grown_alloc w _
  · simp [Value.ownBlock]

/-! cuts -/
theorem op_slice_rd {L B c lo hi : Nat} {low high : Option Operand} (T : SlT P t e z sz by_) (hx : (putsL a l).eval x = v) (hr : RdC w L B sz v c cs)
    (hlo : (low = none ∧ lo = 0) ∨ ∃ q k, low = some q ∧ (putsL a l).eval q = .int k (lo : Int)) (hhi : (high = none ∧ hi = c) ∨ ∃ q k, high = some q ∧ (putsL a l).eval q = .int k (hi : Int)) (h1 : lo ≤ hi) (h2 : hi ≤ c)
    (h : ∀ v', RdC w L B sz v' (hi - lo) ((cs.drop (lo * sz)).take ((hi - lo) * sz)) → wpList P ops Q rest (putsL a ((d, v') :: l)) w) :
    wpList P ops Q (⟨some d, .slice t x low high none, ty, p, af, none⟩ :: rest) (putsL a l) w := by
  have hlo' : (low.map (putsL a l).eval = none ∧ lo = 0) ∨ ∃ k, low.map (putsL a l).eval = some (.int k (lo : Int)) := by
    rcases hlo with ⟨rfl, h⟩ | ⟨q, k, rfl, h⟩
    · exact .inl ⟨rfl, h⟩
    · exact .inr ⟨k, by simp [h]⟩
  have hhi' : (high.map (putsL a l).eval = none ∧ hi = c) ∨ ∃ k, high.map (putsL a l).eval = some (.int k (hi : Int)) := by
    rcases hhi with ⟨rfl, h⟩ | ⟨q, k, rfl, h⟩
    · exact .inl ⟨rfl, h⟩
    · exact .inr ⟨k, by simp [h]⟩
  obtain ⟨v', hrun, R⟩ := run_slice_rd (P := P) T hr hlo' hhi' h1 h2
  exact op_gen rfl (by simp only [execOp, hx, Option.map_none, Sem.run_bind, hrun, Result.andThen_ok, Sem.run_pure]) (h v' R)
/-- A cut of a text. -/
theorem op_slice_str {lo hi : Nat} {s : List UInt8} {low high : Option Operand} (ht : P.underlying t = some .string) (hx : (putsL a l).eval x = .string (bs s))
    (hlo : (low = none ∧ lo = 0) ∨ ∃ q k, low = some q ∧ (putsL a l).eval q = .int k (lo : Int)) (hhi : (high = none ∧ hi = s.length) ∨ ∃ q k, high = some q ∧ (putsL a l).eval q = .int k (hi : Int)) (h1 : lo ≤ hi) (h2 : hi ≤ s.length)
    (h : wpList P ops Q rest (putsL a ((d, .string (bs ((s.drop lo).take (hi - lo)))) :: l)) w) :
    wpList P ops Q (⟨some d, .slice t x low high none, ty, p, af, none⟩ :: rest) (putsL a l) w := by
  have hex : (bs s).extract lo hi = bs ((s.drop lo).take (hi - lo)) := by
    apply ByteArray.ext
    simp [bs]
  have q1 : lo ≤ hi := h1
  have q2 : hi ≤ s.length := h2
  have q3 : ¬ hi < lo := by omega
  have q4 : ¬ s.length < hi := by omega
  refine op_gen (v := .string (bs ((s.drop lo).take (hi - lo)))) rfl ?_ h
  rw [← hex]
  rcases hlo with ⟨rfl, rfl⟩ | ⟨q, k, rfl, hq⟩ <;> rcases hhi with ⟨rfl, rfl⟩ | ⟨q', k', rfl, hq'⟩ <;>
    simp [execOp, hx, Instr.sliceAt, Instr.slice, run_underlying ht, Instr.sliceBounds, Instr.sliceBound, asIntOf, bs_size, *]
end
end Go.Gx
