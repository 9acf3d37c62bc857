/- Small laws for walks whose frames are written as lists of puts: no condition beyond those each law states. -/
import Derived.WalkKit
import Derived.WalkSpells
import Derived.WalkLawsBesides
import Derived.Lib.Hide
namespace Go.Gx
open Go.RowKit

/-! ### frames -/
def putsL (a : Act) : List (Nat × Value) → Act
  | [] => a
  | (d, v) :: l => (putsL a l).put (some d) v
def lkN (N : Nat) : List (Nat × Value) → Nat → Option Value
  | [], _ => none
  | (d, v) :: l, t => if Nat.beq d t && Nat.blt d N then some v else lkN N l t

theorem put_size (a : Act) (d : Option Nat) (v : Value) : (a.put d v).tmps.size = a.tmps.size := by
  cases d <;> simp [Act.put]
theorem putsL_size (a : Act) (l : List (Nat × Value)) : (putsL a l).tmps.size = a.tmps.size := by
  induction l with
  | nil => rfl
  | cons p l ih => obtain ⟨d, v⟩ := p; simp only [putsL, put_size, ih]
theorem putsL_defers (a : Act) (l : List (Nat × Value)) : (putsL a l).defers = a.defers := by
  induction l with
  | nil => rfl
  | cons p l ih => obtain ⟨d, v⟩ := p; simp only [putsL, Act.put, ih]
theorem putsL_get {a : Act} {N : Nat} (hN : a.tmps.size = N) (l : List (Nat × Value)) (t : Nat) : (putsL a l).tmps.getD t undef = (lkN N l t).getD (a.tmps.getD t undef) := by
  induction l with
  | nil => rfl
  | cons p l ih =>
    obtain ⟨d, v⟩ := p
    have hs : (putsL a l).tmps.size = N := by rw [putsL_size, hN]
    simp only [putsL, Act.put, lkN]
    by_cases h : d = t
    · subst h
      by_cases hd : d < N
      · have : Nat.blt d N = true := by rw [Nat.blt_eq]; exact hd
        simp [this, hs, hd, Array.getD_eq_getD_getElem?]
      · have : Nat.blt d N = false := by
          rw [← Bool.not_eq_true]; intro h; rw [Nat.blt_eq] at h; exact hd h
        have h2 : (putsL a l).tmps.setIfInBounds d v = (putsL a l).tmps := by
          rw [Array.setIfInBounds_eq_of_size_le (by omega)]
        simp only [this, h2, Bool.and_false, Bool.false_eq_true, if_false]
        exact ih
    · have hb : Nat.beq d t = false := by
        rw [← Bool.not_eq_true]; intro hh; exact h (Nat.eq_of_beq_eq_true hh)
      simp only [hb, Bool.false_and, Bool.false_eq_true, if_false]
      rw [← ih]
      simp [Array.getD_eq_getD_getElem?, Array.getElem?_setIfInBounds_ne h]

theorem ev_hit {a : Act} {N : Nat} {l : List (Nat × Value)} {t : Nat} {v : Value} (hN : a.tmps.size = N) (h : lkN N l t = some v) : (putsL a l).eval (.tmp t) = v := by
  show (putsL a l).tmps.getD t undef = v
  rw [putsL_get hN, h]; rfl
theorem ev_base {a : Act} {N : Nat} {l : List (Nat × Value)} {t : Nat} {v : Value} (hN : a.tmps.size = N) (h : lkN N l t = none) (hb : a.tmps.getD t undef = v) : (putsL a l).eval (.tmp t) = v := by
  show (putsL a l).tmps.getD t undef = v
  rw [putsL_get hN, h]; exact hb
/-- The same, of the slot itself. -/
theorem sl_hit {a : Act} {N : Nat} {l : List (Nat × Value)} {t : Nat} {v : Value} (hN : a.tmps.size = N) (h : lkN N l t = some v) : (putsL a l).tmps.getD t undef = v := ev_hit hN h
theorem sl_base {a : Act} {N : Nat} {l : List (Nat × Value)} {t : Nat} {v : Value} (hN : a.tmps.size = N) (h : lkN N l t = none) (hb : a.tmps.getD t undef = v) : (putsL a l).tmps.getD t undef = v := ev_base hN h hb
theorem slN {a : Act} {N : Nat} {l : List (Nat × Value)} (hN : a.tmps.size = N) : (putsL a l).tmps.size = N := by rw [putsL_size, hN]

/-! ### entering, leaving, and the code's joints -/
variable {P : Program} {Q : Exit → Act → World → Prop} {a : Act} {w w' : World} {K : Act → World → Prop} {l : List (Nat × Value)} {ops : Array Oper} {rest : List Oper}

theorem enter {f : FuncId} {fn : Func} {c : Code} {args : Array Value} {w : World} {R : Ending → World → Prop} {N : Nat} (hf : P.funcs[f]? = some fn) (hb : fn.body = some c) (hN : fn.ntmps = N) (hle : args.size ≤ N)
    (h : ∀ a : Act, a.tmps.size = N → a.defers = [] → (∀ i, i < args.size → a.tmps.getD i undef = args.getD i undef) → c.wp P (bodyPost P fn R) (putsL a []) w) : Calls P f args w R := by
  refine calls_of_wp hf hb (h _ ?_ rfl ?_)
  · simp [hN]; omega
  · intro i hi
    simp [Array.getD_eq_getD_getElem?, hi, Array.getElem?_append_left]

theorem seq_reg {id : Nat} {ol : List Oper} {y : Code} (h : ∀ K : Act → World → Prop, (∀ a w, y.wp P Q a w → K a w) → wpList P ol.toArray (Exit.then K Q) ol a w) : (Code.seq (.region id ol.toArray false) y).wp P Q a w :=
  wp_seq_k fun K hK => wp_region_lit (h K hK)
theorem one_reg {id : Nat} {ol : List Oper} (h : wpList P ol.toArray Q ol a w) : (Code.region id ol.toArray false).wp P Q a w := wp_region_lit h
theorem seq_any {x y : Code} (h : ∀ K : Act → World → Prop, (∀ a w, y.wp P Q a w → K a w) → x.wp P (Exit.then K Q) a w) : (Code.seq x y).wp P Q a w := wp_seq_k h
theorem reg_nil (h : Q .normal a w) : wpList P ops Q [] a w := h
theorem then_normal {K : Act → World → Prop} (h : K a w) : Exit.then K Q .normal a w := h
theorem then_exit {id : Nat} (h : Q (.exit id) a w) : Exit.then K Q (.exit id) a w := h
theorem then_ret (h : Q .ret a w) : Exit.then K Q .ret a w := h
theorem blk_hit {id : Nat} (h : Q .normal a w) : Exit.inBlock id Q (.exit id) a w := by simp [Exit.inBlock, h]
theorem blk_miss {id id' : Nat} (hne : id' ≠ id) (h : Q (.exit id') a w) : Exit.inBlock id Q (.exit id') a w := by simp [Exit.inBlock, h, hne]
theorem blk_normal {id : Nat} (h : Q .normal a w) : Exit.inBlock id Q .normal a w := h
theorem blk_ret {id : Nat} (h : Q .ret a w) : Exit.inBlock id Q .ret a w := h

theorem ret1 {fn : Func} {R : Ending → World → Prop} {t : Nat} {v : Value} (hr : fn.results = #[.tmp t]) (hd : a.defers = []) (hv : (putsL a l).eval (.tmp t) = v) (h : R (.returned v) w) : bodyPost P fn R .ret (putsL a l) w := by
  have hv' : (putsL a l).tmps[t]?.getD undef = v := by have h' : (putsL a l).tmps.getD t undef = v := hv; rwa [Array.getD_eq_getD_getElem?] at h'
  refine ⟨by rw [putsL_defers, hd], v, ?_, h⟩
  simp [results, hr, hv']
theorem ret0 {fn : Func} {R : Ending → World → Prop} (hr : fn.results = #[]) (hd : a.defers = []) (h : R (.returned (.tuple #[])) w) : bodyPost P fn R .ret (putsL a l) w := by
  refine ⟨by rw [putsL_defers, hd], .tuple #[], ?_, h⟩
  simp [results, hr]
theorem ret2 {fn : Func} {R : Ending → World → Prop} {t t' : Nat} {v v' : Value} (hr : fn.results = #[.tmp t, .tmp t']) (hd : a.defers = []) (hv : (putsL a l).eval (.tmp t) = v) (hv' : (putsL a l).eval (.tmp t') = v') (h : R (.returned (.tuple #[v, v'])) w) : bodyPost P fn R .ret (putsL a l) w := by
  have h1 : (putsL a l).tmps[t]?.getD undef = v := by have h' : (putsL a l).tmps.getD t undef = v := hv; rwa [Array.getD_eq_getD_getElem?] at h'
  have h2 : (putsL a l).tmps[t']?.getD undef = v' := by have h' : (putsL a l).tmps.getD t' undef = v' := hv'; rwa [Array.getD_eq_getD_getElem?] at h'
  refine ⟨by rw [putsL_defers, hd], .tuple #[v, v'], ?_, h⟩
  simp [results, hr, h1, h2]

/-- What a list of results holds. -/
def resVals (P : Program) (a : Act) (w : World) : List ResultVar → List Value → Prop
  | [], [] => True
  | .tmp t :: rs, v :: vs => a.eval (.tmp t) = v ∧ resVals P a w rs vs
  | .cell t ty :: rs, v :: vs => (∃ ad, a.eval (.tmp t) = .pointer (some ad) ∧ (loadVar ty ad).run P w = .ok v w) ∧ resVals P a w rs vs
  | _, _ => False
def resF (tmps : Array Value) : ResultVar → Sem Value
  | .tmp t => pure (tmps.getD t undef)
  | .cell a t => do loadVar t (← asAddr (tmps.getD a undef))
theorem results_eq (fn : Func) (tmps : Array Value) : results fn tmps = (do let vs ← fn.results.mapM (resF tmps); pure (if h : vs.size = 1 then vs[0] else .tuple vs)) := by
  unfold results
  congr 2
theorem run_resVals {A : Act} : ∀ (rs : List ResultVar) (vs : List Value), resVals P A w rs vs → (rs.mapM (resF A.tmps)).run P w = .ok vs w
  | [], [], _ => by simp
  | [], _ :: _, h => h.elim
  | .tmp t :: rs, [], h => h.elim
  | .cell t ty :: rs, [], h => h.elim
  | .tmp t :: rs, v :: vs, h => by
    obtain ⟨h1, h2⟩ := h
    have h1' : A.tmps.getD t undef = v := h1
    have ih := run_resVals rs vs h2
    simp only [List.mapM_cons, resF, Sem.run_bind, Sem.run_pure, Result.andThen_ok, h1', ih]
  | .cell t ty :: rs, v :: vs, h => by
    obtain ⟨⟨ad, h1, h3⟩, h2⟩ := h
    have h1' : A.tmps.getD t undef = .pointer (some ad) := h1
    have ih := run_resVals rs vs h2
    have h4 : (asAddr (A.tmps.getD t undef)).run P w = .ok ad w := by rw [h1']; rfl
    simp only [List.mapM_cons, resF, Sem.run_bind, Sem.run_pure, Result.andThen_ok, h4, h3, ih]
theorem retN {fn : Func} {R : Ending → World → Prop} {rs : List ResultVar} {vs : List Value} {v : Value} (hr : fn.results = rs.toArray) (hd : a.defers = []) (hv : resVals P (putsL a l) w rs vs)
    (ht : (if h : vs.toArray.size = 1 then vs.toArray[0] else .tuple vs.toArray) = v) (h : R (.returned v) w) : bodyPost P fn R .ret (putsL a l) w := by
  refine ⟨by rw [putsL_defers, hd], v, ?_, h⟩
  rw [results_eq, hr, List.mapM_toArray]
  have := run_resVals rs vs hv
  rw [Sem.run_bind, Sem.run_map, this]
  simp only [Result.andThen_ok, Sem.run_pure, ht]

/-! ### one operation -/
theorem op_gen {o : Oper} {v : Value} (hg : o.guard = none) (hr : (execOp (putsL a l).eval o).run P w = .ok (.value v) w') (h : wpList P ops Q rest ((putsL a l).put o.dst v) w') : wpList P ops Q (o :: rest) (putsL a l) w :=
  wpList_plain hg fun K hK => by
    unfold Oper.wp
    rw [hr]
    exact hK _ _ h
theorem op_skip {o : Oper} (hg : o.guard = none) (hd : o.dst = none) (hr : (execOp (putsL a l).eval o).run P w = .ok .skip w') (h : wpList P ops Q rest (putsL a l) w') : wpList P ops Q (o :: rest) (putsL a l) w :=
  wpList_plain hg fun K hK => by
    unfold Oper.wp
    rw [hr]
    simp only [Oper.upon, hd, Act.put]
    exact hK _ _ h

section
variable {d ty : Nat} {p : String} {af : Array Edge} {x y z : Operand} {v u : Value}
theorem op_move (hx : (putsL a l).eval x = v) (h : wpList P ops Q rest (putsL a ((d, v) :: l)) w) : wpList P ops Q (⟨some d, .move x, ty, p, af, none⟩ :: rest) (putsL a l) w :=
  op_gen rfl (by simp [execOp, hx]) h
theorem op_assign (hx : (putsL a l).eval x = v) (h : wpList P ops Q rest (putsL a ((d, v) :: l)) w) : wpList P ops Q (⟨some d, .assign x, ty, p, af, none⟩ :: rest) (putsL a l) w :=
  op_gen rfl (by simp [execOp, hx]) h
theorem op_pick_t (hx : (putsL a l).eval x = .bool true) (hy : (putsL a l).eval y = v) (h : wpList P ops Q rest (putsL a ((d, v) :: l)) w) : wpList P ops Q (⟨some d, .pick x y z, ty, p, af, none⟩ :: rest) (putsL a l) w :=
  op_gen rfl (by simp [execOp, hx, hy, asBool]) h
theorem op_pick_f (hx : (putsL a l).eval x = .bool false) (hy : (putsL a l).eval z = v) (h : wpList P ops Q rest (putsL a ((d, v) :: l)) w) : wpList P ops Q (⟨some d, .pick x y z, ty, p, af, none⟩ :: rest) (putsL a l) w :=
  op_gen rfl (by simp [execOp, hx, hy, asBool]) h
theorem op_not {b : Bool} (hx : (putsL a l).eval x = .bool b) (h : wpList P ops Q rest (putsL a ((d, .bool (!b)) :: l)) w) {t : Nat} : wpList P ops Q (⟨some d, .unOp .not t x, ty, p, af, none⟩ :: rest) (putsL a l) w :=
  op_gen rfl (by simp [execOp, hx, Op.unary]) h
theorem op_extract {vs : Array Value} {i : Nat} (hx : (putsL a l).eval x = .tuple vs) (hi : vs[i]? = some v) (h : wpList P ops Q rest (putsL a ((d, v) :: l)) w) : wpList P ops Q (⟨some d, .extract x i, ty, p, af, none⟩ :: rest) (putsL a l) w :=
  op_gen rfl (by simp [execOp, hx, Instr.extract, hi]) h
/-! guards -/
theorem g_true {o oj : Oper} {j dj : Nat} {b : Bool} (hg : o.guard = some (j, b)) (hj : ops[j]? = some oj) (hd : oj.dst = some dj) (hv : (putsL a l).eval (.tmp dj) = .bool b)
    (h : wpList P ops Q (⟨o.dst, o.op, o.type, o.pos, o.after, none⟩ :: rest) (putsL a l) w) : wpList P ops Q (o :: rest) (putsL a l) w := by
  have hv' : (putsL a l).tmps.getD dj undef = .bool b := hv
  have hy : yielded ops (putsL a l).tmps j = some b := by
    unfold yielded
    simp only [hj, Option.bind_some, hd]
    rw [Array.getD_eq_getD_getElem?] at hv'
    cases hq : (putsL a l).tmps[dj]? with
    | none => rw [hq] at hv'; simp [undef] at hv'
    | some v => rw [hq] at hv'; simp at hv'; subst hv'; rfl
  unfold wpList at h ⊢
  have h1 : Region.wanted o (yielded ops (putsL a l).tmps) = true := by simp [Region.wanted, hg, hy]
  have h2 : Region.wanted ⟨o.dst, o.op, o.type, o.pos, o.after, none⟩ (yielded ops (putsL a l).tmps) = true := rfl
  rw [if_pos h2] at h
  rw [if_pos h1]
  exact h
theorem g_false {o oj : Oper} {j dj dd : Nat} {b c : Bool} (hg : o.guard = some (j, b)) (hj : ops[j]? = some oj) (hd : oj.dst = some dj) (hv : (putsL a l).eval (.tmp dj) = .bool c) (hne : (c == b) = false) (hdd : o.dst = some dd)
    (h : wpList P ops Q rest (putsL a ((dd, undef) :: l)) w) : wpList P ops Q (o :: rest) (putsL a l) w := by
  have hv' : (putsL a l).tmps.getD dj undef = .bool c := hv
  have hy : yielded ops (putsL a l).tmps j = some c := by
    unfold yielded
    simp only [hj, Option.bind_some, hd]
    rw [Array.getD_eq_getD_getElem?] at hv'
    cases hq : (putsL a l).tmps[dj]? with
    | none => rw [hq] at hv'; simp [undef] at hv'
    | some v => rw [hq] at hv'; simp at hv'; subst hv'; rfl
  unfold wpList
  have h1 : Region.wanted o (yielded ops (putsL a l).tmps) = false := by
    simp only [Region.wanted, hg, hy]
    cases c <;> cases b <;> simp_all
  simp only [h1, Bool.false_eq_true, if_false, hdd]
  exact h
end
end Go.Gx
