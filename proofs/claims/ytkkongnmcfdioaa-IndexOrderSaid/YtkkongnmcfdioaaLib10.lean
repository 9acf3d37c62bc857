/- Small laws for walks, the tenth part: rows of bytes that are written cell by cell. -/
import Derived.Test.YtkkongnmcfdioaaLib9
import Derived.Laws.CopyRow
import Derived.Laws.IdiomCopy
namespace Go.Gx
open Go.RowKit
section
variable {P : Program} {Q : Exit → Act → World → Prop} {a : Act} {w w' : World} {l : List (Nat × Value)} {ops : Array Oper} {rest : List Oper}
variable {d ty xt yt t e : Nat} {p : String} {af : Array Edge} {x y z : Operand} {v u zv : Value} {k : IntKind} {m r : Int} {b n c off sz by_ L B base : Nat} {cs ws : List Value}
theorem op_make_row {k' : IntKind} {by2 : Nat} (T : SlT P t e zv 1 by2) (hx : (putsL a l).eval x = .int k (n : Int)) (hy : (putsL a l).eval y = .int k' (n : Int)) (hz : zv.cells = #[u]) (hn : n ≤ 140737488355328) (hbytes : by2 * n ≤ 281474976710656)
    (h : ∀ w' b, w.heap.size ≤ b → b < w'.heap.size → Bx w' b e (List.replicate n u) → w.grownBy w' none → wpList P ops Q rest (putsL a ((d, .slice (some ⟨b, 0, none⟩) n n) :: l)) w') :
    wpList P ops Q (⟨some d, .makeSlice t x y, ty, p, af, none⟩ :: rest) (putsL a l) w := by
  obtain ⟨i, hi, hz0, hz1, hz2⟩ := info_parts T.info
  have h63 : n ≤ maxLen := by unfold maxLen; omega
  have hq : ((i.bytes : Nat) : Int) * (n : Int) ≤ 281474976710656 := by
    rw [hz2, ← Int.natCast_mul]; omega
  have hr := run_make (P := P) w t e i zv T.und hi hz0 k k' n n (by omega) (Int.le_refl _) hq (by omega)
  simp only [Int.toNat_natCast, hz1, Nat.mul_one, hz] at hr
  refine op_gen (v := .slice (some ⟨w.heap.size, 0, none⟩) n n) rfl (by simp only [execOp, hx, hy, Sem.run_bind, hr, Result.andThen_ok, Sem.run_pure]; rfl) (h _ _ (Nat.le_refl _) ?_ ?_ (grown_alloc w _))
  · simp
  · unfold Bx
    rw [heap_alloc_new w _, ← toList_madeCells_one]
theorem op_cap (ht : P.underlying t = some (.slice e)) (hx : (putsL a l).eval x = .slice none 0 0 ∧ c = 0 ∨ ∃ g n, (putsL a l).eval x = .slice (some g) n c) (h : wpList P ops Q rest (putsL a ((d, .int .i64 (c : Int)) :: l)) w) :
    wpList P ops Q (⟨some d, .call ⟨.builtin .cap, #[x], #[t]⟩, ty, p, af, none⟩ :: rest) (putsL a l) w := by
  rcases hx with ⟨hx, rfl⟩ | ⟨g, n, hx⟩
  · exact op_gen rfl (by simp [execOp, hx, resolve, invoke, builtin, Builtin.cap_, run_underlying ht, goInt]) h
  · exact op_gen rfl (by simp [execOp, hx, resolve, invoke, builtin, Builtin.cap_, run_underlying ht, goInt]) h
/-- what is copied into a row's beginning -/
theorem op_copy_row {dT sT : Nat} {by2 : Nat} (T : SlT P dT e zv 1 by2) (hx : (putsL a l).eval x = .slice (some ⟨b, 0, none⟩) n c) (hb : Bx w b t cs) (hn : n ≤ cs.length) (hy : (putsL a l).eval y = v) (R : RdC w L B 1 v m.toNat ws) (hm : ws.length ≤ n) (h1 : ws.all Value.oneCell' = true)
    (h : ∀ w', Bx w' b t (ws ++ cs.drop ws.length) → w.grownBy w' (some b) → wpList P ops Q rest (putsL a ((d, .int .i64 (ws.length : Int)) :: l)) w') :
    wpList P ops Q (⟨some d, .call ⟨.builtin .copy, #[x, y], #[dT, sT]⟩, ty, p, af, none⟩ :: rest) (putsL a l) w := by
  obtain ⟨i, hi, hz0, hz1, hz2⟩ := info_parts T.info
  have hsz : (P.info? e).map (·.size) = some 1 := by simp [hi, hz1]
  obtain ⟨hl, ad, cc, rfl, hnc, _, hr⟩ := R
  rw [Nat.mul_one] at hl
  have hb' : w.heap[b]? = some (.cells cs.toArray t (0, 0)) := hb
  rcases hr with rfl | ⟨b2, off, rfl, _, _, hc⟩
  · have hl0 : m.toNat = 0 := by simpa using hl.symm
    refine op_gen (v := .int .i64 0) (w' := w) rfl ?_ (h w (by simpa using hb) ⟨rfl, rfl, rfl, Nat.le_refl _, fun _ _ _ => rfl⟩)
    have hrun : (Builtin.copy_ #[dT, sT] ty #[.slice (some ⟨b, 0, none⟩) n c, .slice ad m.toNat cc]).run P w = .ok (goInt 0) w := by
      rw [hl0]
      cases ad <;> simp [Builtin.copy_, run_underlying T.und, Builtin.lenOf, Builtin.firstCells, sizeOf, typeInfo, hi, storeCells, loadCells, loadCellsFrom]
    have hy' : (putsL a l).eval y = .slice ad m.toNat cc := hy
    simp only [execOp, hx, hy', resolve, invoke, builtin, Sem.run_bind, Sem.run_pure, Result.andThen_ok, List.map_toArray, List.map_cons, List.map_nil, hrun]
    rfl
  · have hrun := run_copy_row (P := P) w dT sT ty e b 0 n c ⟨b2, off, none⟩ m.toNat cc cs.toArray t ws T.und hsz hb' (by rw [← hl]; exact (Nat.min_eq_left hm).symm)
      (fun j v hv => by rw [Addr.add_lit]; exact hc j v hv) (by simpa using Nat.le_trans hm hn) (fun v hv => List.all_eq_true.1 h1 v hv)
    refine op_gen (v := .int .i64 (ws.length : Int)) (w' := w.setRow b (cs.toArray.toList.take 0 ++ ws ++ cs.toArray.toList.drop (0 + ws.length)).toArray) rfl ?_ (h _ ?_ ?_)
    · simp only [execOp, hx, hy, resolve, invoke, builtin, Sem.run_bind, Sem.run_pure, Result.andThen_ok, List.map_toArray, List.map_cons, List.map_nil, hrun]
      rfl
    · unfold Bx; rw [setRow_heap w b cs.toArray _ t _ hb']; simp
    · exact ⟨rfl, rfl, rfl, by simp, fun k _ hk => setRow_other w b k _ (fun e => hk (by rw [e]))⟩
theorem op_index_row {n c : Nat} {by2 i : Nat} (T : SlT P xt e zv 1 by2) (hx : (putsL a l).eval x = .slice (some ⟨b, 0, none⟩) n c) (hy : (putsL a l).eval y = .int k r) (hr : r = (i : Int)) (h1 : i < n)
    (h : wpList P ops Q rest (putsL a ((d, ptr b i) :: l)) w) : wpList P ops Q (⟨some d, .indexAddr xt x y, ty, p, af, none⟩ :: rest) (putsL a l) w := by
  obtain ⟨inf, hi, hz0, hz1, hz2⟩ := info_parts T.info
  subst hr
  refine op_gen (v := ptr b i) rfl ?_ h
  have hand : (0 ≤ (i : Int) ∧ (i : Int) < (n : Int)) := by omega
  simp [execOp, hx, hy, Instr.indexAt, asIntOf, run_underlying T.und, sizeOf, typeInfo, hi, ptr, Addr.add_lit, hz1, h1]
theorem op_store_row {i T : Nat} (ht : (P.info? t).map (·.size) = some 1) (hx : (putsL a l).eval x = ptr b i) (hy : (putsL a l).eval y = v) (h1 : v.cells = #[v]) (h2 : Value.oneCell' v = true) (hb : Bx w b T cs) (hi : i < cs.length)
    (h : ∀ w', Bx w' b T (cs.set i v) → w.grownBy w' (some b) → wpList P ops Q rest (putsL a l) w') : wpList P ops Q (⟨none, .store t x y, ty, p, af, none⟩ :: rest) (putsL a l) w :=
  op_store (vs := [v]) ht hx hy (by rw [h1]) rfl (by simp [h2]) hb (by simp; omega) (by simp [List.set_eq_take_append_cons_drop, hi]) h
/-! lists of one's own, written into -/
/-- Where a list's cell lies. -/
def AtV (v : Value) (q b o : Nat) : Prop := ∃ off n c, v = .slice (some ⟨b, off, none⟩) n c ∧ o = off + q
theorem AtV.fld {q o : Nat} (h : AtV v q b o) (f : Nat) : AtV v (q + f) b (o + f) := by
  obtain ⟨off, n, c, rfl, rfl⟩ := h
  exact ⟨off, n, c, rfl, by omega⟩
theorem op_index_own {i : Nat} (T : SlT P xt e zv sz by_) (hx : (putsL a l).eval x = v) (O : Own w base e sz v n cs) (hy : (putsL a l).eval y = .int k r) (hr : r = (i : Int)) (h1 : i < n)
    (h : ∀ b o, base ≤ b → AtV v (i * sz) b o → wpList P ops Q rest (putsL a ((d, ptr b o) :: l)) w) : wpList P ops Q (⟨some d, .indexAddr xt x y, ty, p, af, none⟩ :: rest) (putsL a l) w := by
  obtain ⟨inf, hi, hz0, hz1, hz2⟩ := info_parts T.info
  subst hr
  obtain ⟨hl, ⟨rfl, rfl⟩ | ⟨g, off, cap, cur, fr, rfl, hb, hg, hf, hnc, hcm, hfit, htk⟩⟩ := O
  · omega
  · refine op_gen (v := ptr g (off + i * sz)) rfl ?_ (h g (off + i * sz) hb ⟨off, n, cap, rfl, rfl⟩)
    have hand : (0 ≤ (i : Int) ∧ (i : Int) < (n : Int)) := by omega
    simp [execOp, hx, hy, Instr.indexAt, asIntOf, run_underlying T.und, sizeOf, typeInfo, hi, ptr, Addr.add_lit, hz1, h1]
theorem Own.cellAt {q o : Nat} (O : Own w base e sz v n cs) (hA : AtV v q b o) : ∀ j u, cs[q + j]? = some u → w.cell? ⟨b, o + j, none⟩ = some u := by
  intro j u hu
  obtain ⟨off', n', c', hv, rfl⟩ := hA
  obtain ⟨hl, ⟨rfl, rfl⟩ | ⟨g, off, cap, cur, fr, rfl, hb, hg, hf, hnc, hcm, hfit, htk⟩⟩ := O
  · cases hv
  · injection hv with e1 e2 e3; injection e1 with e1; injection e1 with e1 e4; subst e1; subst e2; subst e3; subst e4
    rw [← htk, List.getElem?_take] at hu
    split at hu
    · rw [List.getElem?_drop] at hu
      simp only [World.cell?, hg]
      simpa [Nat.add_assoc] using hu
    · cases hu
theorem op_store_own {s q o : Nat} {vs : List Value} (ht : (P.info? t).map (·.size) = some s) (hx : (putsL a l).eval x = ptr b o) (hy : (putsL a l).eval y = u) (hv : u.cells.toList = vs) (hs : vs.length = s) (h1 : vs.all Value.oneCell' = true)
    (O : Own w base e sz v n cs) (hA : AtV v q b o) (hq : q + vs.length ≤ cs.length)
    (h : ∀ w', Own w' base e sz v n (cs.take q ++ vs ++ cs.drop (q + vs.length)) → w.grownBy w' v.ownBlock → wpList P ops Q rest (putsL a l) w') : wpList P ops Q (⟨none, .store t x y, ty, p, af, none⟩ :: rest) (putsL a l) w := by
  obtain ⟨off', n', c', hv', rfl⟩ := hA
  obtain ⟨hl, ⟨rfl, rfl⟩ | ⟨g, off, cap, cur, fr, rfl, hb, hg, hf, hnc, hcm, hfit, htk⟩⟩ := O
  · cases hv'
  · injection hv' with e1 e2 e3; injection e1 with e1; injection e1 with e1 e4; subst e1; subst e2; subst e3; subst e4
    have hle : n * sz ≤ cap * sz := Nat.mul_le_mul_right _ hnc
    have hsz : off + q + vs.length ≤ cur.size := by omega
    have hst := run_storeCells_cells (P := P) g (off + q) vs 0 w (fun j hj => by simp [World.cell?, hg]; omega) (fun j hj => by
      have := hf (off + q + 0 + j) (by omega)
      obtain ⟨lo, hi⟩ := fr
      simp only [World.frozen?, hg]
      simpa [Bool.and_eq_false_iff] using this) (fun v hv => List.all_eq_true.1 h1 v hv)
    rw [Nat.add_zero] at hst
    refine op_skip rfl rfl (w' := w.setCells g (off + q) vs) ?_ (h _ ?_ (grown_setCells w g _ vs))
    · obtain ⟨i, hi, hsz⟩ := Option.map_eq_some_iff.1 ht
      have hz : u.cells.size = i.size := by rw [hsz, ← hs, ← hv]; simp
      show (do Instr.storeAt t ((putsL a l).eval x) ((putsL a l).eval y); pure Next.skip : Sem Next).run P w = _
      rw [hx, hy]
      simp only [Instr.storeAt, Instr.sureAddr, ptr, storeVar, sizeOf, typeInfo, program, Sem.run_bind, Sem.run_pure, Result.andThen_ok]
      rw [show (Sem.program Sem.pure).run P w = .ok P w from rfl]
      simp only [Result.andThen_ok, hi, Sem.run_pure, hz, ne_eq, not_true_eq_false, if_false, hv, hst]
    · refine ⟨by simp; omega, .inr ⟨g, off, cap, setsAt cur (off + q) vs, fr, rfl, hb, heap_setCells g e fr vs (off + q) w cur hg, by rw [size_setsAt]; exact hf, hnc, hcm, by rw [size_setsAt]; exact hfit, ?_⟩⟩
      apply List.ext_getElem?
      intro j
      have hcs : ∀ j, cs[j]? = if j < n * sz then cur[off + j]? else none := by
        intro j
        rw [← htk, List.getElem?_take]
        split
        · rw [List.getElem?_drop]; simp
        · rfl
      rw [List.getElem?_take, List.getElem?_drop]
      simp only [Array.getElem?_toList]
      rw [get_setsAt vs (off + q) cur (off + j) hsz]
      simp only [List.getElem?_append, List.length_append, List.length_take, List.getElem?_take, List.getElem?_drop, hcs]
      by_cases h1 : j < n * sz
      · by_cases h2 : j < q
        · have a1 : ¬ (off + q ≤ off + j ∧ off + j < off + q + vs.length) := by omega
          have a2 : j < min q cs.length + vs.length := by omega
          have a3 : j < min q cs.length := by omega
          rw [if_pos h1, if_neg a1, if_pos a2, if_pos a3, if_pos h2, if_pos h1]
        · by_cases h3 : j < q + vs.length
          · have a1 : off + q ≤ off + j ∧ off + j < off + q + vs.length := by omega
            have a2 : j < min q cs.length + vs.length := by omega
            have a3 : ¬ j < min q cs.length := by omega
            have a4 : off + j - (off + q) = j - min q cs.length := by omega
            rw [if_pos h1, if_pos a1, if_pos a2, if_neg a3, a4]
          · have a1 : ¬ (off + q ≤ off + j ∧ off + j < off + q + vs.length) := by omega
            have a2 : ¬ j < min q cs.length + vs.length := by omega
            have a4 : q + vs.length + (j - (min q cs.length + vs.length)) = j := by omega
            rw [if_pos h1, if_neg a1, if_neg a2, a4, if_pos h1]
      · have a2 : ¬ j < min q cs.length + vs.length := by omega
        have a4 : q + vs.length + (j - (min q cs.length + vs.length)) = j := by omega
        rw [if_neg h1, if_neg a2, a4, if_neg h1]
/-- a list up to its row's end -/
theorem op_slice_cap {high : Operand} {c : Nat} (T : SlT P t e zv sz by_) (hx : (putsL a l).eval x = v) (O : Own w base e sz v n cs) (hc : v = .slice none 0 0 ∧ c = 0 ∨ ∃ g n, v = .slice (some g) n c) (hh : (putsL a l).eval high = .int k (c : Int))
    (h : ∀ v' cs', Own w base e sz v' c cs' → v'.ownBlock = v.ownBlock → wpList P ops Q rest (putsL a ((d, v') :: l)) w) :
    wpList P ops Q (⟨some d, .slice t x none (some high) none, ty, p, af, none⟩ :: rest) (putsL a l) w := by
  obtain ⟨inf, hi, hz0, hz1, hz2⟩ := info_parts T.info
  obtain ⟨hl, ⟨rfl, rfl⟩ | ⟨g, off, cap, cur, fr, rfl, hb, hg, hf, hnc, hcm, hfit, htk⟩⟩ := O
  · rcases hc with ⟨_, rfl⟩ | ⟨g, n, hv⟩
    · refine op_gen (v := .slice none 0 0) rfl ?_ (h _ [] (Own.nil w base e sz) rfl)
      simp [execOp, hx, hh, Instr.sliceAt, Instr.slice, run_underlying T.und, Instr.sliceBounds, Instr.sliceBound, asIntOf, sizeOf, typeInfo, hi]
    · cases hv
  · rcases hc with ⟨hv, _⟩ | ⟨g', n', hv⟩
    · cases hv
    · injection hv with e1 e2 e3; subst e3
      refine op_gen (v := .slice (some ⟨g, off, none⟩) cap cap) rfl ?_ (h _ ((cur.toList.drop off).take (cap * sz)) ⟨by simp; omega, .inr ⟨g, off, cap, cur, fr, rfl, hb, hg, hf, Nat.le_refl _, hcm, hfit, rfl⟩⟩ rfl)
      simp [execOp, hx, hh, Instr.sliceAt, Instr.slice, run_underlying T.und, Instr.sliceBounds, Instr.sliceBound, asIntOf, sizeOf, typeInfo, hi, Addr.add_lit]
theorem Own.capOf (O : Own w base e sz v n cs) : ∃ c, n ≤ c ∧ c ≤ maxLen ∧ (v = .slice none 0 0 ∧ c = 0 ∨ ∃ g n, v = .slice (some g) n c) := by
  obtain ⟨hl, ⟨rfl, rfl⟩ | ⟨g, off, cap, cur, fr, rfl, hb, hg, hf, hnc, hcm, hfit, htk⟩⟩ := O
  · exact ⟨0, Nat.le_refl _, by unfold maxLen; omega, .inl ⟨rfl, rfl⟩⟩
  · exact ⟨cap, hnc, hcm, .inr ⟨_, _, rfl⟩⟩
theorem RdC.ofRow {m c : Nat} (h : Bx w b t cs) (hm : m * sz ≤ cs.length) (hc : m ≤ c) (hcm : c ≤ maxLen) : RdC w b (b + 1) sz (.slice (some ⟨b, 0, none⟩) m c) m (cs.take (m * sz)) :=
  ⟨by simp; omega, _, _, rfl, hc, hcm, .inr ⟨b, 0, rfl, Nat.le_refl _, by omega, fun j u hu => by
    rw [Nat.zero_add]
    rw [List.getElem?_take] at hu
    split at hu
    · exact h.cell hu
    · cases hu⟩⟩
theorem RdC.ofRowAll {m c : Nat} (h : Bx w b t cs) (hm : cs.length = m * sz) (hc : m ≤ c) (hcm : c ≤ maxLen) : RdC w b (b + 1) sz (.slice (some ⟨b, 0, none⟩) m c) m cs :=
  ⟨hm, _, _, rfl, hc, hcm, .inr ⟨b, 0, rfl, Nat.le_refl _, by omega, fun j u hu => by rw [Nat.zero_add]; exact h.cell hu⟩⟩
theorem end_ret {fn : Func} {R : Ending → World → Prop} (h : bodyPost P fn R .ret (putsL a l) w) : bodyPost P fn R .normal (putsL a l) w := h
theorem op_slice_row {n c m : Nat} {high : Operand} {r : Int} (T : SlT P t e zv sz by_) (hx : (putsL a l).eval x = .slice (some ⟨b, 0, none⟩) n c) (hh : (putsL a l).eval high = .int k r) (hr : r = (m : Int)) (hm : m ≤ c)
    (h : wpList P ops Q rest (putsL a ((d, .slice (some ⟨b, 0, none⟩) m c) :: l)) w) :
    wpList P ops Q (⟨some d, .slice t x none (some high) none, ty, p, af, none⟩ :: rest) (putsL a l) w := by
  obtain ⟨inf, hi, hz0, hz1, hz2⟩ := info_parts T.info
  subst hr
  have q1 : ¬ c < m := by omega
  refine op_gen (v := .slice (some ⟨b, 0, none⟩) m c) rfl ?_ h
  simp [execOp, hx, hh, Instr.sliceAt, Instr.slice, run_underlying T.und, Instr.sliceBounds, Instr.sliceBound, asIntOf, sizeOf, typeInfo, hi, Addr.add_lit, hm, q1]
theorem grow_step0 {w0 : World} {row : Option Nat} (h : w0.grownBy w row) (E : w.grownBy w' none) : w0.grownBy w' row := grown_trans h (grown_any E row)
theorem grow_stepO {w0 : World} {row : Option Nat} (h : w0.grownBy w row) (O : Own w base e sz v n cs) (E : w.grownBy w' v.ownBlock) (hb : w0.heap.size ≤ base) : w0.grownBy w' row :=
  ⟨E.os.trans h.os, E.tape.trans h.tape, E.output.trans h.output, Nat.le_trans h.size E.size, fun k hk hr => (E.block k (Nat.lt_of_lt_of_le hk h.size) (fun hh => by have := (O.lt k hh.symm).1; omega)).trans (h.block k hk hr)⟩
theorem grow_step1 {w0 : World} {row : Option Nat} {g : Nat} (h : w0.grownBy w row) (E : w.grownBy w' (some g)) (hb : w0.heap.size ≤ g) : w0.grownBy w' row :=
  ⟨E.os.trans h.os, E.tape.trans h.tape, E.output.trans h.output, Nat.le_trans h.size E.size, fun k hk hr => (E.block k (Nat.lt_of_lt_of_le hk h.size) (fun hh => by injection hh with hh; omega)).trans (h.block k hk hr)⟩
theorem grow_stepX {w0 : World} {row : Option Nat} (h : w0.grownBy w row) (E : w.grownBy w' v.ownBlock) (he : v.ownBlock = row) : w0.grownBy w' row := by
  subst he; exact grown_trans h E
theorem set_tail (bl t : List UInt8) (k : Nat) (c : UInt8) : ((bl ++ t).map u8v).set (bl.length + k) (u8v c) = (bl ++ t.set k c).map u8v := by
  rw [← List.map_set, List.set_append_right _ _ (by omega), show bl.length + k - bl.length = k by omega]
end
end Go.Gx
