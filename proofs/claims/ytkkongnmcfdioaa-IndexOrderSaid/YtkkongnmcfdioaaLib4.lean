/- Small laws for walks, the fourth part: stores, literals, len, index, cut, append, texts of bytes. -/
import Derived.Test.YtkkongnmcfdioaaLib3
namespace Go.Gx
open Go.RowKit

/-- What some operands hold. -/
def argsEv (ρ : Operand → Value) : List Operand → List Value → Prop
  | [], [] => True
  | x :: xs, v :: vs => ρ x = v ∧ argsEv ρ xs vs
  | _, _ => False
theorem argsEv_map {ρ : Operand → Value} : ∀ {xs : List Operand} {vs : List Value}, argsEv ρ xs vs → xs.map ρ = vs
  | [], [], _ => rfl
  | x :: xs, v :: vs, h => by rw [List.map_cons, h.1, argsEv_map h.2]
  | [], _ :: _, h => h.elim
  | _ :: _, [], h => h.elim
def partsEv (ρ : Operand → Value) : List (Nat × Operand) → List (Nat × Value) → Prop
  | [], [] => True
  | (i, x) :: xs, (j, v) :: vs => i = j ∧ ρ x = v ∧ partsEv ρ xs vs
  | _, _ => False
theorem partsEv_map {ρ : Operand → Value} : ∀ {xs : List (Nat × Operand)} {vs : List (Nat × Value)}, partsEv ρ xs vs → (xs.map fun q => (q.1, ρ q.2)) = vs
  | [], [], _ => rfl
  | (i, x) :: xs, (j, v) :: vs, h => by obtain ⟨rfl, rfl, h⟩ := h; rw [List.map_cons, partsEv_map h]
  | [], _ :: _, h => h.elim
  | _ :: _, [], h => h.elim

section
variable {P : Program} {Q : Exit → Act → World → Prop} {a : Act} {w w' : World} {l : List (Nat × Value)} {ops : Array Oper} {rest : List Oper}
variable {d ty xt yt t e : Nat} {p : String} {af : Array Edge} {x y z : Operand} {v u : Value} {k : IntKind} {m n r : Int}

theorem op_fn {f : FuncId} {as : List Operand} {ts : Array Nat} {vs : List Value} {R : Value → World → Prop} (hf : callOk P f = true) (hm : argsEv (putsL a l).eval as vs) (hc : Ret P f vs.toArray w R)
    (h : ∀ v w', R v w' → wpList P ops Q rest (putsL a ((d, v) :: l)) w') : wpList P ops Q (⟨some d, .call ⟨.value (.func f), as.toArray, ts⟩, ty, p, af, none⟩ :: rest) (putsL a l) w :=
  op_call hf (by rw [List.map_toArray, argsEv_map hm]) hc h
theorem op_fnv {f : FuncId} {as : List Operand} {ts : Array Nat} {vs fs cs : List Value} {R : Value → World → Prop} (hx : (putsL a l).eval x = .func (.func f) fs.toArray cs.toArray) (hf : callOk P f = true) (hm : argsEv (putsL a l).eval as vs) (hc : Ret P f (fs ++ vs ++ cs).toArray w R)
    (h : ∀ v w', R v w' → wpList P ops Q rest (putsL a ((d, v) :: l)) w') : wpList P ops Q (⟨some d, .call ⟨.value x, as.toArray, ts⟩, ty, p, af, none⟩ :: rest) (putsL a l) w :=
  op_callv hx hf (by rw [List.map_toArray, argsEv_map hm]) (by simpa using hc) h

theorem op_build {ps : List (Nat × Operand)} {pv : List (Nat × Value)} (hp : partsEv (putsL a l).eval ps pv) (hb : (Instr.build t pv.toArray).run P w = .ok v w) (h : wpList P ops Q rest (putsL a ((d, v) :: l)) w) :
    wpList P ops Q (⟨some d, .build t ps.toArray, ty, p, af, none⟩ :: rest) (putsL a l) w :=
  op_gen rfl (by
    have e : (ps.toArray.map fun (q : Nat × Operand) => (q.1, (putsL a l).eval q.2)) = pv.toArray := by rw [List.map_toArray, partsEv_map hp]
    show (do let r ← Instr.build t (ps.toArray.map fun (q : Nat × Operand) => (q.1, (putsL a l).eval q.2)); pure (Next.value r) : Sem Next).run P w = _
    rw [e, Sem.run_bind, hb]; rfl) h
theorem op_bslice {ps : List (Nat × Operand)} {pv : List (Nat × Value)} {len : Nat} {cs : List Value} (hp : partsEv (putsL a l).eval ps pv)
    (hb : (Instr.buildSlice t len pv.toArray).run P w = .ok (.slice (some ⟨w.heap.size, 0, none⟩) len len) (w.alloc (.cells cs.toArray e)))
    (h : ∀ w' b, w.heap.size ≤ b → b < w'.heap.size → Bx w' b e cs → w.grownBy w' none → wpList P ops Q rest (putsL a ((d, .slice (some ⟨b, 0, none⟩) len len) :: l)) w') :
    wpList P ops Q (⟨some d, .buildSlice t len ps.toArray, ty, p, af, none⟩ :: rest) (putsL a l) w :=
  op_gen rfl (by
    have e : (ps.toArray.map fun (q : Nat × Operand) => (q.1, (putsL a l).eval q.2)) = pv.toArray := by rw [List.map_toArray, partsEv_map hp]
    show (do let r ← Instr.buildSlice t len (ps.toArray.map fun (q : Nat × Operand) => (q.1, (putsL a l).eval q.2)); pure (Next.value r) : Sem Next).run P w = _
    rw [e, Sem.run_bind, hb]; rfl)
    (h _ _ (Nat.le_refl _) (by simp) (heap_alloc_new w _) (grown_alloc w _))

theorem op_store {b off s T : Nat} {vs cs cs' : List Value} (ht : (P.info? t).map (·.size) = some s) (hx : (putsL a l).eval x = ptr b off) (hy : (putsL a l).eval y = v) (hv : v.cells.toList = vs) (hs : vs.length = s) (h1 : vs.all Value.oneCell' = true)
    (hb : Bx w b T cs) (hfit : off + vs.length ≤ cs.length) (hcs : cs.take off ++ vs ++ cs.drop (off + vs.length) = cs')
    (h : ∀ w', Bx w' b T cs' → w.grownBy w' (some b) → wpList P ops Q rest (putsL a l) w') : wpList P ops Q (⟨none, .store t x y, ty, p, af, none⟩ :: rest) (putsL a l) w :=
  op_skip rfl rfl (w' := w.setRow b cs'.toArray) (by
    obtain ⟨i, hi, hsz⟩ := Option.map_eq_some_iff.1 ht
    have hst := run_storeCells_at P b off T vs 0 cs.toArray w hb (by simpa using hfit) (fun u hu => (List.all_eq_true.1 h1) u hu)
    have hz : v.cells.size = i.size := by rw [hsz, ← hs, ← hv]; simp
    simp only [Nat.add_zero] at hst
    rw [hcs] at hst
    show (do Instr.storeAt t ((putsL a l).eval x) ((putsL a l).eval y); pure Next.skip : Sem Next).run P w = _
    rw [hx, hy]
    simp only [Instr.storeAt, Instr.sureAddr, ptr, storeVar, sizeOf, typeInfo, program, Sem.run_bind, Sem.run_pure, Result.andThen_ok]
    rw [show (Sem.program Sem.pure).run P w = .ok P w from rfl]
    simp only [Result.andThen_ok, hi, Sem.run_pure, hz, ne_eq, not_true_eq_false, if_false, hv, hst])
    (h _ (by unfold Bx; rw [setRow_heap w b cs.toArray _ T _ hb]) ⟨rfl, rfl, rfl, by simp, fun k _ hk => setRow_other w b k _ (fun e => hk (by rw [e]))⟩)

/-! ### lists that are read -/
theorem op_len_rd {L B sz c : Nat} {cs : List Value} (ht : P.underlying t = some (.slice e)) (hx : (putsL a l).eval x = v) (hr : RdC w L B sz v c cs) (h : wpList P ops Q rest (putsL a ((d, .int .i64 (c : Int)) :: l)) w) :
    wpList P ops Q (⟨some d, .call ⟨.builtin .len, #[x], #[t]⟩, ty, p, af, none⟩ :: rest) (putsL a l) w := by
  obtain ⟨_, ad, c', rfl, _⟩ := hr
  exact op_gen rfl (by simp [execOp, hx, resolve, invoke, builtin, Builtin.len_, run_underlying ht, goInt]) h
theorem op_index_rd {L B sz c : Nat} {cs : List Value} {i : Int} {z : Value} {by_ : Nat} (T : SlT P xt e z sz by_) (hx : (putsL a l).eval x = v) (hr : RdC w L B sz v c cs) (hy : (putsL a l).eval y = .int k i) (h0 : 0 ≤ i) (h1 : i < (c : Int))
    (h : ∀ b off, L ≤ b → b < B → (∀ j u, j < sz → cs[i.toNat * sz + j]? = some u → w.cell? ⟨b, off + j, none⟩ = some u) → wpList P ops Q rest (putsL a ((d, ptr b off) :: l)) w) :
    wpList P ops Q (⟨some d, .indexAddr xt x y, ty, p, af, none⟩ :: rest) (putsL a l) w := by
  obtain ⟨hl, ad, c', rfl, _, _, hc⟩ := hr
  have hpos := T.pos
  rcases hc with rfl | ⟨b, off, rfl, hL, hB, hc⟩
  · exfalso
    have : c * sz = 0 := by simpa using hl.symm
    rcases Nat.mul_eq_zero.1 this with h | h <;> omega
  · obtain ⟨inf, hi, hz0, hz1, hz2⟩ := info_parts T.info
    refine op_gen (v := ptr b (off + i.toNat * sz)) rfl ?_ (h b (off + i.toNat * sz) hL hB fun j u hj hu => by rw [Nat.add_assoc]; exact hc _ _ hu)
    have hand : (0 ≤ i ∧ i < (c : Int)) := ⟨h0, h1⟩
    simp [execOp, hx, hy, Instr.indexAt, asIntOf, run_underlying T.und, sizeOf, typeInfo, hi, hz1, hand, ptr, Addr.add_lit]
theorem el_u8 {l : List UInt8} {e : Int} {i : Nat} (he : e = (i : Int)) (h : i < l.length) : (l.map u8v)[e.toNat * 1 + 0]? = some (Value.int .u8 ((l.getD i 0).toNat : Int)) := by
  subst he
  simp [h, u8v, List.getD_eq_getElem?_getD]
theorem take_drop_get {α : Type} (cs : List α) (s m j : Nat) (u : α) (h : ((cs.drop s).take m)[j]? = some u) : cs[s + j]? = some u := by
  rw [List.getElem?_take] at h
  split at h
  · simpa using h
  · cases h
theorem run_slice_rd {L B sz c lo hi : Nat} {cs : List Value} {z : Value} {by_ : Nat} {low high : Option Value} (T : SlT P t e z sz by_) (hr : RdC w L B sz v c cs)
    (hlo : (low = none ∧ lo = 0) ∨ ∃ k, low = some (.int k (lo : Int))) (hhi : (high = none ∧ hi = c) ∨ ∃ k, high = some (.int k (hi : Int))) (h1 : lo ≤ hi) (h2 : hi ≤ c) :
    ∃ v', (Instr.sliceAt t v low high none).run P w = .ok v' w ∧ RdC w L B sz v' (hi - lo) ((cs.drop (lo * sz)).take ((hi - lo) * sz)) := by
  obtain ⟨hl, ad, cp, rfl, hcc, hcm, hc⟩ := hr
  obtain ⟨inf, hi', hz0, hz1, hz2⟩ := info_parts T.info
  refine ⟨.slice (if cp = lo then ad else ad.map (·.add (lo * sz))) (hi - lo) (cp - lo), ?_, ?_⟩
  · rcases hlo with ⟨rfl, rfl⟩ | ⟨k, rfl⟩ <;> rcases hhi with ⟨rfl, rfl⟩ | ⟨k', rfl⟩
    · simp [Instr.sliceAt, Instr.slice, run_underlying T.und, Instr.sliceBounds, sizeOf, typeInfo, hi', hz1]
    · have q1 : hi ≤ cp := by omega
      have q3 : ¬ cp < hi := by omega
      simp [q3, Instr.sliceAt, Instr.slice, run_underlying T.und, Instr.sliceBounds, Instr.sliceBound, asIntOf, sizeOf, typeInfo, hi', hz1, q1]
    · have q1 : lo ≤ hi := by omega
      have q3 : ¬ hi < lo := by omega
      simp [q3, Instr.sliceAt, Instr.slice, run_underlying T.und, Instr.sliceBounds, Instr.sliceBound, asIntOf, sizeOf, typeInfo, hi', hz1, q1]
    · have q1 : lo ≤ hi := by omega
      have q2 : hi ≤ cp := by omega
      simp [Instr.sliceAt, Instr.slice, run_underlying T.und, Instr.sliceBounds, Instr.sliceBound, asIntOf, sizeOf, typeInfo, hi', hz1, q1, q2]
  · have hlen : ((cs.drop (lo * sz)).take ((hi - lo) * sz)).length = (hi - lo) * sz := by
      rw [List.length_take, List.length_drop, hl, ← Nat.sub_mul]
      exact Nat.min_eq_left (Nat.mul_le_mul_right _ (by omega))
    refine ⟨hlen, _, _, rfl, by omega, by omega, ?_⟩
    rcases hc with rfl | ⟨b, off, rfl, hL, hB, hc⟩
    · exact .inl (by simp)
    · by_cases he : cp = lo
      · refine .inl (List.eq_nil_of_length_eq_zero ?_)
        rw [hlen]
        have : hi - lo = 0 := by omega
        rw [this, Nat.zero_mul]
      · refine .inr ⟨b, off + lo * sz, ?_, hL, hB, fun j u hu => ?_⟩
        · rw [if_neg he]; simp [Addr.add_lit]
        · rw [Nat.add_assoc]
          exact hc _ _ (take_drop_get _ _ _ _ _ hu)
end
end Go.Gx
