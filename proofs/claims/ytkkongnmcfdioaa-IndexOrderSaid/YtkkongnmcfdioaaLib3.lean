/- Small laws for walks, the third part: memory: variables in blocks of their own, lists that are read, lists of one's own. -/
import Derived.Test.YtkkongnmcfdioaaLib2
namespace Go.Gx
open Go.RowKit

/-! ### what is told of memory -/
/-- Block b is a variable of type t that holds these cells. -/
def Bx (w : World) (b t : Nat) (cs : List Value) : Prop := w.heap[b]? = some (.cells cs.toArray t (0, 0))
/-- A list that may be read: n elements of sz cells each; its block lies from L on and below B. -/
def RdC (w : World) (L B sz : Nat) (v : Value) (n : Nat) (cs : List Value) : Prop :=
  cs.length = n * sz ∧ ∃ a c, v = .slice a n c ∧ n ≤ c ∧ c ≤ maxLen ∧ (cs = [] ∨ ∃ b off, a = some ⟨b, off, none⟩ ∧ L ≤ b ∧ b < B ∧ ∀ j u, cs[j]? = some u → w.cell? ⟨b, off + j, none⟩ = some u)
/-- A list whose block is one's own: it may be written, and grow. -/
def Own (w : World) (base e sz : Nat) (v : Value) (n : Nat) (cs : List Value) : Prop :=
  cs.length = n * sz ∧ ((v = .slice none 0 0 ∧ n = 0) ∨
   ∃ g off cap cur fr, v = .slice (some ⟨g, off, none⟩) n cap ∧ base ≤ g ∧ w.heap[g]? = some (.cells cur e fr) ∧ (∀ j, j < cur.size → ¬ (fr.1 ≤ j ∧ j < fr.2)) ∧ n ≤ cap ∧ cap ≤ maxLen ∧ off + cap * sz ≤ cur.size ∧ (cur.toList.drop off).take (n * sz) = cs)

section
variable {P : Program} {w w' : World} {row : Option Nat} {b t g : Nat} {cs : List Value} {L B sz n base e : Nat} {v : Value}

theorem Bx.lt (h : Bx w b t cs) : b < w.heap.size := (Array.getElem?_eq_some_iff.1 h).1
theorem Bx.keep (h : Bx w b t cs) (E : w.grownBy w' row) (hne : some b ≠ row) : Bx w' b t cs := by
  unfold Bx; rw [E.block b h.lt hne]; exact h
theorem Bx.keep0 (h : Bx w b t cs) (E : w.grownBy w' none) : Bx w' b t cs := h.keep E (by simp)
theorem Bx.cell (h : Bx w b t cs) {j : Nat} {u : Value} (hu : cs[j]? = some u) : w.cell? ⟨b, j, none⟩ = some u := by
  have h' : w.heap[b]? = some (.cells cs.toArray t (0, 0)) := h
  simp [World.cell?, h', hu]
theorem Bx.free (h : Bx w b t cs) (j : Nat) : w.frozen? ⟨b, j, none⟩ = false := by
  have h' : w.heap[b]? = some (.cells cs.toArray t (0, 0)) := h
  simp [World.frozen?, h']
theorem RdC.cell_lt (h : RdC w L B sz v n cs) : True := trivial
theorem RdC.keep (h : RdC w L B sz v n cs) (E : w.grownBy w' row) (hne : ∀ k, row = some k → k < L ∨ B ≤ k) : RdC w' L B sz v n cs := by
  obtain ⟨h0, a, c, hv, h1, h2, h3⟩ := h
  refine ⟨h0, a, c, hv, h1, h2, ?_⟩
  rcases h3 with h3 | ⟨b, off, ha, hL, hB, hc⟩
  · exact .inl h3
  · refine .inr ⟨b, off, ha, hL, hB, fun j u hu => ?_⟩
    have := hc j u hu
    rw [World.cell?_of_block (w := w) (E.block b (World.block_lt_of_cell? w _ this) (fun e => by have := hne b e.symm; omega))]
    exact this
theorem RdC.keep0 (h : RdC w L B sz v n cs) (E : w.grownBy w' none) : RdC w' L B sz v n cs := h.keep E (by simp)
theorem RdC.below (h : RdC w L B sz v n cs) (hb : Below B w w') : RdC w' L B sz v n cs := by
  obtain ⟨h0, a, c, hv, h1, h2, h3⟩ := h
  refine ⟨h0, a, c, hv, h1, h2, ?_⟩
  rcases h3 with h3 | ⟨b, off, ha, hL, hB, hc⟩
  · exact .inl h3
  · exact .inr ⟨b, off, ha, hL, hB, fun j u hu => by rw [hb.cell (p := ⟨b, off + j, none⟩) hB]; exact hc j u hu⟩
theorem RdC.mono {L' B' : Nat} (h : RdC w L B sz v n cs) (hL : L' ≤ L) (hB : B ≤ B') : RdC w L' B' sz v n cs := by
  obtain ⟨h0, a, c, hv, h1, h2, h3⟩ := h
  refine ⟨h0, a, c, hv, h1, h2, ?_⟩
  rcases h3 with h3 | ⟨b, off, ha, hL', hB', hc⟩
  · exact .inl h3
  · exact .inr ⟨b, off, ha, by omega, by omega, hc⟩
theorem RdC.nil (w : World) (L B sz : Nat) : RdC w L B sz (.slice none 0 0) 0 [] := ⟨by simp, none, 0, rfl, Nat.le_refl _, by unfold maxLen; omega, .inl rfl⟩
theorem RdC.ofBx (h : Bx w b t cs) (hl : cs.length = n * sz) (hn : n ≤ maxLen) : RdC w b (b + 1) sz (.slice (some ⟨b, 0, none⟩) n n) n cs :=
  ⟨hl, _, _, rfl, Nat.le_refl _, hn, .inr ⟨b, 0, rfl, Nat.le_refl _, by omega, fun j u hu => by rw [Nat.zero_add]; exact h.cell hu⟩⟩
theorem Own.ofBx (h : Bx w b t cs) (hl : cs.length = n * sz) (hn : n ≤ maxLen) (hb : base ≤ b) : Own w base t sz (.slice (some ⟨b, 0, none⟩) n n) n cs :=
  ⟨hl, .inr ⟨b, 0, n, cs.toArray, (0, 0), rfl, hb, h, by simp, Nat.le_refl _, hn, by simp [hl], by simp [← hl]⟩⟩
theorem Own.nil (w : World) (base e sz : Nat) : Own w base e sz (.slice none 0 0) 0 [] := ⟨by simp, .inl ⟨rfl, rfl⟩⟩
theorem Own.lt (h : Own w base e sz v n cs) : ∀ k, v.ownBlock = some k → base ≤ k ∧ k < w.heap.size := by
  intro k hk
  rcases h.2 with ⟨rfl, _⟩ | ⟨g, off, cap, cur, fr, rfl, hb, hg, _⟩
  · simp [Value.ownBlock] at hk
  · simp [Value.ownBlock] at hk
    subst hk
    exact ⟨hb, (Array.getElem?_eq_some_iff.1 hg).1⟩
theorem Own.keep (h : Own w base e sz v n cs) (E : w.grownBy w' row) (hne : row = none ∨ v.ownBlock ≠ row) : Own w' base e sz v n cs := by
  refine ⟨h.1, ?_⟩
  rcases h.2 with hn | ⟨g, off, cap, cur, fr, rfl, hb, hg, r⟩
  · exact .inl hn
  · refine .inr ⟨g, off, cap, cur, fr, rfl, hb, ?_, r⟩
    rw [E.block g (Array.getElem?_eq_some_iff.1 hg).1 (by rcases hne with rfl | hne; · simp
                                                          · simpa [Value.ownBlock] using hne)]
    exact hg
theorem Own.keep0 (h : Own w base e sz v n cs) (E : w.grownBy w' none) : Own w' base e sz v n cs := h.keep E (.inl rfl)
theorem Own.rd (h : Own w base e sz v n cs) {B : Nat} (hB : ∀ k, v.ownBlock = some k → k < B) : RdC w base B sz v n cs := by
  refine ⟨h.1, ?_⟩
  rcases h.2 with ⟨rfl, rfl⟩ | ⟨g, off, cap, cur, fr, rfl, hb, hg, _, hnc, hcm, hfit, htk⟩
  · exact ⟨none, 0, rfl, Nat.le_refl _, by unfold maxLen; omega, .inl (by simpa using h.1)⟩
  · refine ⟨_, cap, rfl, hnc, hcm, .inr ⟨g, off, rfl, hb, hB g rfl, fun j u hu => ?_⟩⟩
    have : w.cell? ⟨g, off + j, none⟩ = cur[off + j]? := by simp [World.cell?, hg]
    rw [this, ← htk] at *
    rw [List.getElem?_take] at hu
    split at hu
    · simpa using hu
    · cases hu
theorem Own.rdw (h : Own w base e sz v n cs) : RdC w base w.heap.size sz v n cs := h.rd fun k hk => (h.lt k hk).2
theorem Own.mono {base' : Nat} (h : Own w base e sz v n cs) (hb : base' ≤ base) : Own w base' e sz v n cs := by
  refine ⟨h.1, ?_⟩
  rcases h.2 with hn | ⟨g, off, cap, cur, fr, rfl, hb', r⟩
  · exact .inl hn
  · exact .inr ⟨g, off, cap, cur, fr, rfl, by omega, r⟩
/-- A variable is none of one's own rows of another type. -/
theorem Bx.keepO (h : Bx w b t cs) {ws : List Value} (O : Own w base e sz v n ws) (E : w.grownBy w' v.ownBlock) (hne : t ≠ e) : Bx w' b t cs := by
  refine h.keep E ?_
  rcases O.2 with ⟨rfl, _⟩ | ⟨g, off, cap, cur, fr, rfl, hb, hg, _⟩
  · simp [Value.ownBlock]
  · simp only [Value.ownBlock, ne_eq, Option.some.injEq]
    rintro rfl
    have h' : w.heap[b]? = some (.cells cs.toArray t (0, 0)) := h
    rw [h'] at hg
    simp at hg
    exact hne hg.2.1
theorem Bx.keepB (h : Bx w b t cs) {ws : List Value} (O : Own w base e sz v n ws) (E : w.grownBy w' v.ownBlock) (hne : b < base) : Bx w' b t cs :=
  h.keep E fun hh => by have := (O.lt b hh.symm).1; omega
theorem RdC.keepO {ws : List Value} {v' : Value} {n' sz' : Nat} (h : RdC w L B sz' v' n' cs) (O : Own w base e sz v n ws) (E : w.grownBy w' v.ownBlock) (hne : B ≤ base) : RdC w' L B sz' v' n' cs :=
  h.keep E fun k hk => .inr (by have := (O.lt k hk).1; omega)
end

theorem grown_alloc (w : World) (o : Obj) : w.grownBy (w.alloc o) none := World.grownBy_alloc w o none
theorem grown_drew (w : World) : w.grownBy w.drew none := ⟨rfl, rfl, rfl, Nat.le_refl _, fun _ _ _ => rfl⟩
theorem grown_trans {w w1 w2 : World} {row : Option Nat} (h1 : w.grownBy w1 row) (h2 : w1.grownBy w2 row) : w.grownBy w2 row :=
  ⟨h2.os.trans h1.os, h2.tape.trans h1.tape, h2.output.trans h1.output, Nat.le_trans h1.size h2.size, fun k hk hr => (h2.block k (Nat.lt_of_lt_of_le hk h1.size) hr).trans (h1.block k hk hr)⟩
theorem grown_any {w w' : World} (h : w.grownBy w' none) (row : Option Nat) : w.grownBy w' row := ⟨h.os, h.tape, h.output, h.size, fun k hk _ => h.block k hk (by simp)⟩
theorem below_step0 {B : Nat} {w0 w w' : World} (h : Below B w0 w) (E : w.grownBy w' none) (hB : B ≤ w.heap.size) : Below B w0 w' := h.grown E hB (by simp)
theorem below_stepO {B base e sz n : Nat} {v : Value} {cs : List Value} {w0 w w' : World} (h : Below B w0 w) (O : Own w base e sz v n cs) (E : w.grownBy w' v.ownBlock) (hB : B ≤ w.heap.size) (hb : B ≤ base) : Below B w0 w' :=
  h.grown E hB fun k hk => by have := (O.lt k hk).1; omega
theorem below_step1 {B g : Nat} {w0 w w' : World} (h : Below B w0 w) (E : w.grownBy w' (some g)) (hB : B ≤ w.heap.size) (hb : B ≤ g) : Below B w0 w' :=
  h.grown E hB fun k hk => by simp at hk; omega
theorem grown_of_below {w w' : World} (h : Below w.heap.size w w') : w.grownBy w' none := ⟨h.os, h.tape, h.output, h.size, fun k hk _ => h.block k hk⟩
theorem below_of_grown {w w' : World} (h : w.grownBy w' none) : Below w.heap.size w w' := ⟨h.os, h.tape, h.output, h.size, fun k hk => h.block k hk (by simp)⟩

/-! ### types -/
def oneT (P : Program) (t : TypeId) : Bool := match P.underlying t with | some (.struct _) | some (.array ..) | none => false | _ => true
def aggT (P : Program) (t : TypeId) : Option Nat := match P.underlying t with | some (.struct _) | some (.array ..) => (P.info? t).map (·.size) | _ => none
def zeroT (P : Program) (t : TypeId) : Option Value := (P.info? t).bind (·.zero)
def sizeT (P : Program) (t : TypeId) : Nat := ((P.info? t).map (·.size)).getD 0
def fieldT (P : Program) (t i : Nat) : Option Nat := match P.underlying t with | some (.struct fs) => (fs[i]?).bind fun f => if ((P.info? f.type).map (·.size)).getD 0 = 0 then none else some f.offset | _ => none
/-- A slice's type, its element's, the element's zero cells, size and bytes. -/
structure SlT (P : Program) (t e : TypeId) (z : Value) (sz by_ : Nat) : Prop where
  und : P.underlying t = some (.slice e)
  info : (P.info? e).map (fun i => (i.zero, i.size, i.bytes)) = some (some z, sz, by_)
  zs : z.cells.size = sz
  pos : 0 < sz

section
variable {P : Program} {Q : Exit → Act → World → Prop} {a : Act} {w w' : World} {l : List (Nat × Value)} {ops : Array Oper} {rest : List Oper}
variable {d ty xt yt : Nat} {p : String} {af : Array Edge} {x y z : Operand} {v u : Value} {k : IntKind} {m n r : Int}

theorem run_isAgg_one {t : TypeId} (h : oneT P t = true) (w : World) : (isAgg t).run P w = .ok false w := by
  unfold oneT at h
  unfold isAgg
  cases hu : P.underlying t with
  | none => simp [hu] at h
  | some dd => cases dd <;> simp_all [run_underlying hu]
theorem run_isAgg_agg {t : TypeId} {s : Nat} (h : aggT P t = some s) (w : World) : (isAgg t).run P w = .ok true w ∧ (sizeOf t).run P w = .ok s w := by
  unfold aggT at h
  unfold isAgg sizeOf typeInfo
  cases hu : P.underlying t with
  | none => simp [hu] at h
  | some dd =>
    cases dd <;> simp_all [run_underlying hu] <;>
    (obtain ⟨i, hi, rfl⟩ := h; simp [hi])

theorem op_load1 {b off : Nat} (ht : oneT P xt = true) (hx : (putsL a l).eval x = ptr b off) (hc : w.cell? ⟨b, off, none⟩ = some v) (h : wpList P ops Q rest (putsL a ((d, v) :: l)) w) :
    wpList P ops Q (⟨some d, .load xt x, ty, p, af, none⟩ :: rest) (putsL a l) w :=
  op_gen rfl (by simp [execOp, hx, ptr, Instr.loadAt, Instr.sureAddr, loadVar, run_isAgg_one ht, run_load, hc]) h
theorem run_loadA {s b off : Nat} {cs : List Value} (ht : aggT P xt = some s) (hl : cs.length = s) (hc : ∀ j u, cs[j]? = some u → w.cell? ⟨b, off + j, none⟩ = some u) : (loadVar xt ⟨b, off, none⟩).run P w = .ok (.agg cs.toArray) w := by
  have hr := run_loadCells_list (P := P) w ⟨b, off, none⟩ cs (fun j u hu => by rw [Addr.add_lit]; exact hc j u hu)
  obtain ⟨h1, h2⟩ := run_isAgg_agg ht w
  rw [hl] at hr
  simp [loadVar, h1, h2, hr]
theorem op_loadA {s b off : Nat} {cs : List Value} (ht : aggT P xt = some s) (hl : cs.length = s) (hx : (putsL a l).eval x = ptr b off) (hc : ∀ j u, cs[j]? = some u → w.cell? ⟨b, off + j, none⟩ = some u) (h : wpList P ops Q rest (putsL a ((d, .agg cs.toArray) :: l)) w) :
    wpList P ops Q (⟨some d, .load xt x, ty, p, af, none⟩ :: rest) (putsL a l) w :=
  op_gen rfl (by
    have := run_loadA (P := P) (w := w) ht hl hc
    simp [execOp, hx, ptr, Instr.loadAt, Instr.sureAddr, this]) h
theorem op_field {b off i o : Nat} (hf : fieldT P xt i = some o) (hx : (putsL a l).eval x = ptr b off) (h : wpList P ops Q rest (putsL a ((d, ptr b (off + o)) :: l)) w) :
    wpList P ops Q (⟨some d, .fieldAddr xt x i, ty, p, af, none⟩ :: rest) (putsL a l) w :=
  op_gen (v := ptr b (off + o)) rfl (by
    unfold fieldT at hf
    cases hu : P.underlying xt with
    | none => simp [hu] at hf
    | some dd =>
      cases dd with
      | struct fs =>
        simp only [hu] at hf
        cases hq : fs[i]? with
        | none => simp [hq] at hf
        | some f =>
          simp only [hq, Option.bind_some] at hf
          split at hf
          · cases hf
          · rename_i hsz
            cases hf
            cases hi : P.info? f.type with
            | none => simp [hi] at hsz
            | some inf =>
              simp only [hi, Option.map_some, Option.getD_some] at hsz
              simp [execOp, hx, ptr, Instr.fieldAt, run_underlying hu, hq, Instr.sureAddr, fieldPlace, sizeOf, typeInfo, hi, hsz, Addr.add_lit]
      | _ => simp [hu] at hf) h
theorem op_nil {b off : Nat} (hx : (putsL a l).eval x = ptr b off) (h : wpList P ops Q rest (putsL a ((d, ptr b off) :: l)) w) :
    wpList P ops Q (⟨some d, .nilCheck x, ty, p, af, none⟩ :: rest) (putsL a l) w :=
  op_gen rfl (by simp [execOp, hx, ptr]) h

/-! making variables -/
theorem op_box {t : Nat} {cs : List Value} (hx : (putsL a l).eval x = v) (hc : v.cells.toList = cs) (h : ∀ w' b, w.heap.size ≤ b → b < w'.heap.size → Bx w' b t cs → w.grownBy w' none → wpList P ops Q rest (putsL a ((d, ptr b 0) :: l)) w') :
    wpList P ops Q (⟨some d, .box t x, ty, p, af, none⟩ :: rest) (putsL a l) w :=
  op_gen (w' := w.alloc (.cells v.cells t)) (v := ptr w.heap.size 0) rfl (by simp only [execOp, hx]; rfl)
    (h _ _ (Nat.le_refl _) (by simp) (by unfold Bx; rw [← hc]; exact heap_alloc_new w _) (grown_alloc w _))
theorem op_alloc {t : Nat} {cs : List Value} {zv : Value} (hz : zeroT P t = some zv) (hc : zv.cells.toList = cs) (h : ∀ w' b, w.heap.size ≤ b → b < w'.heap.size → Bx w' b t cs → w.grownBy w' none → wpList P ops Q rest (putsL a ((d, ptr b 0) :: l)) w') :
    wpList P ops Q (⟨some d, .alloc t, ty, p, af, none⟩ :: rest) (putsL a l) w :=
  op_gen (w' := w.alloc (.cells zv.cells t)) (v := ptr w.heap.size 0) rfl (by
    unfold zeroT at hz
    obtain ⟨i, hi, hz'⟩ := Option.bind_eq_some_iff.1 hz
    have e : (zeroValue t).run P w = .ok zv w := by simp [zeroValue, typeInfo, hi, hz']
    simp only [execOp, Instr.alloc, Sem.run_bind, e, Result.andThen_ok]
    rfl)
    (h _ _ (Nat.le_refl _) (by simp) (by unfold Bx; rw [← hc]; exact heap_alloc_new w _) (grown_alloc w _))
end
end Go.Gx
