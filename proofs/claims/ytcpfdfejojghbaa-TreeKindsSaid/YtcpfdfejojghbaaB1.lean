/- Small laws for walks, the forty-fourth part: a list's facts, each stepped alike. -/
import Derived.WalkKit
import Derived.WalkSpells
import Derived.WalkLawsBesides
import Derived.Lib.Hide
import Derived.Deep.AppendSrc
import Derived.LoopN
import Derived.Laws.StructEq
import Derived.Laws.CopyRow
import Derived.Laws.IdiomCopy
import Derived.ChangeArms
import Derived.DataReads
import Derived.WideShapes
import Derived.Lib.SliceRun
import Derived.Lib.AppendZeros
import Derived.StillTail
import Derived.Conc.LoneSelect
import Derived.Maps.RangeRun
import Derived.Lib.AppendZerosOnto
import Derived.Lib.Overlaps
import Derived.Laws.Externs
import Derived.Lib.Bytealg
import Derived.Lib.UnsafeStr
namespace Go.Gx
theorem all9 {α : Type} {L : List α} {P Q : α → Prop} (h : ∀ x ∈ L, P x) (f : ∀ x, P x → Q x) : ∀ x ∈ L, Q x := fun x hx => f x (h x hx)
end Go.Gx

/- Small laws for walks whose frames are written as lists of puts: no condition beyond those each law states. -/
namespace Go.Gx
open Go.RowKit

/-! ### frames -/
def putsL (a : Act) : List (Nat × Value) → Act
  | [] => a
  | (d, v) :: l => (putsL a l).put (some d) v
def lkN (N : Nat) : List (Nat × Value) → Nat → Option Value
  | [], _ => none
  | (d, v) :: l, t => if Nat.beq d t && Nat.blt d N then some v else lkN N l t

abbrev Sl (a : Act) (t : Nat) (v : Value) : Prop := a.tmps.getD t undef = v
theorem put_size (a : Act) (d : Option Nat) (v : Value) : (a.put d v).tmps.size = a.tmps.size := by
  cases d <;> simp [Act.put]
theorem putsL_size (a : Act) (l : List (Nat × Value)) : (putsL a l).tmps.size = a.tmps.size := by
  induction l with
  | nil => rfl
  | cons p l ih => obtain ⟨d, v⟩ := p; simp only [putsL, put_size, ih]
theorem putsL_defers (a : Act) (l : List (Nat × Value)) : (putsL a l).defers = a.defers := by
  induction l with
  | nil => rfl
  | cons p l ih => obtain ⟨d, v⟩ := p; simp only [putsL, Act.put, ih]
theorem putsL_get {a : Act} {N : Nat} (hN : a.tmps.size = N) (l : List (Nat × Value)) (t : Nat) : (putsL a l).tmps.getD t undef = (lkN N l t).getD (a.tmps.getD t undef) := by
  induction l with
  | nil => rfl
  | cons p l ih =>
    obtain ⟨d, v⟩ := p
    have hs : (putsL a l).tmps.size = N := by rw [putsL_size, hN]
    simp only [putsL, Act.put, lkN]
    by_cases h : d = t
    · subst h
      by_cases hd : d < N
      · have : Nat.blt d N = true := by rw [Nat.blt_eq]; exact hd
        simp [this, hs, hd, Array.getD_eq_getD_getElem?]
      · have : Nat.blt d N = false := by
          rw [← Bool.not_eq_true]; intro h; rw [Nat.blt_eq] at h; exact hd h
        have h2 : (putsL a l).tmps.setIfInBounds d v = (putsL a l).tmps := by
          rw [Array.setIfInBounds_eq_of_size_le (by omega)]
        simp only [this, h2, Bool.and_false, Bool.false_eq_true, if_false]
        exact ih
    · have hb : Nat.beq d t = false := by
        rw [← Bool.not_eq_true]; intro hh; exact h (Nat.eq_of_beq_eq_true hh)
      simp only [hb, Bool.false_and, Bool.false_eq_true, if_false]
      rw [← ih]
      simp [Array.getD_eq_getD_getElem?, Array.getElem?_setIfInBounds_ne h]

theorem ev_hit {a : Act} {N : Nat} {l : List (Nat × Value)} {t : Nat} {v : Value} (hN : a.tmps.size = N) (h : lkN N l t = some v) : (putsL a l).eval (.tmp t) = v := by
  show (putsL a l).tmps.getD t undef = v
  rw [putsL_get hN, h]; rfl
theorem ev_base {a : Act} {N : Nat} {l : List (Nat × Value)} {t : Nat} {v : Value} (hN : a.tmps.size = N) (h : lkN N l t = none) (hb : a.tmps.getD t undef = v) : (putsL a l).eval (.tmp t) = v := by
  show (putsL a l).tmps.getD t undef = v
  rw [putsL_get hN, h]; exact hb
theorem sl_hit {a : Act} {N : Nat} {l : List (Nat × Value)} {t : Nat} {v : Value} (hN : a.tmps.size = N) (h : lkN N l t = some v) : (putsL a l).tmps.getD t undef = v := ev_hit hN h
theorem sl_base {a : Act} {N : Nat} {l : List (Nat × Value)} {t : Nat} {v : Value} (hN : a.tmps.size = N) (h : lkN N l t = none) (hb : a.tmps.getD t undef = v) : (putsL a l).tmps.getD t undef = v := ev_base hN h hb
theorem slN {a : Act} {N : Nat} {l : List (Nat × Value)} (hN : a.tmps.size = N) : (putsL a l).tmps.size = N := by rw [putsL_size, hN]

/-! ### entering, leaving, and the code's joints -/
variable {P : Program} {Q : Exit → Act → World → Prop} {a : Act} {w w' : World} {K : Act → World → Prop} {l : List (Nat × Value)} {ops : Array Oper} {rest : List Oper}

theorem enter {f : FuncId} {fn : Func} {c : Code} {args : Array Value} {w : World} {R : Ending → World → Prop} {N : Nat} (hf : P.funcs[f]? = some fn) (hb : fn.body = some c) (hN : fn.ntmps = N) (hle : args.size ≤ N)
    (h : ∀ a : Act, a.tmps.size = N → a.defers = [] → (∀ i, i < args.size → a.tmps.getD i undef = args.getD i undef) → c.wp P (bodyPost P fn R) (putsL a []) w) : Calls P f args w R := by
  refine calls_of_wp hf hb (h _ ?_ rfl ?_)
  · simp [hN]; omega
  · intro i hi
    simp [Array.getD_eq_getD_getElem?, hi, Array.getElem?_append_left]

theorem one_reg {id : Nat} {ol : List Oper} (h : wpList P ol.toArray Q ol a w) : (Code.region id ol.toArray false).wp P Q a w := wp_region_lit h
theorem seq_any {x y : Code} (h : ∀ K : Act → World → Prop, (∀ a w, y.wp P Q a w → K a w) → x.wp P (Exit.then K Q) a w) : (Code.seq x y).wp P Q a w := wp_seq_k h
theorem reg_nil (h : Q .normal a w) : wpList P ops Q [] a w := h
theorem then_exit {id : Nat} (h : Q (.exit id) a w) : Exit.then K Q (.exit id) a w := h
theorem then_ret (h : Q .ret a w) : Exit.then K Q .ret a w := h
theorem blk_hit {id : Nat} (h : Q .normal a w) : Exit.inBlock id Q (.exit id) a w := by simp [Exit.inBlock, h]
theorem blk_normal {id : Nat} (h : Q .normal a w) : Exit.inBlock id Q .normal a w := h
theorem blk_ret {id : Nat} (h : Q .ret a w) : Exit.inBlock id Q .ret a w := h

theorem ret1 {fn : Func} {R : Ending → World → Prop} {t : Nat} {v : Value} (hr : fn.results = #[.tmp t]) (hd : a.defers = []) (hv : (putsL a l).eval (.tmp t) = v) (h : R (.returned v) w) : bodyPost P fn R .ret (putsL a l) w := by
  have hv' : (putsL a l).tmps[t]?.getD undef = v := by have h' : (putsL a l).tmps.getD t undef = v := hv; rwa [Array.getD_eq_getD_getElem?] at h'
  refine ⟨by rw [putsL_defers, hd], v, ?_, h⟩
  simp [results, hr, hv']
theorem ret2 {fn : Func} {R : Ending → World → Prop} {t t' : Nat} {v v' : Value} (hr : fn.results = #[.tmp t, .tmp t']) (hd : a.defers = []) (hv : (putsL a l).eval (.tmp t) = v) (hv' : (putsL a l).eval (.tmp t') = v') (h : R (.returned (.tuple #[v, v'])) w) : bodyPost P fn R .ret (putsL a l) w := by
  have h1 : (putsL a l).tmps[t]?.getD undef = v := by have h' : (putsL a l).tmps.getD t undef = v := hv; rwa [Array.getD_eq_getD_getElem?] at h'
  have h2 : (putsL a l).tmps[t']?.getD undef = v' := by have h' : (putsL a l).tmps.getD t' undef = v' := hv'; rwa [Array.getD_eq_getD_getElem?] at h'
  refine ⟨by rw [putsL_defers, hd], .tuple #[v, v'], ?_, h⟩
  simp [results, hr, h1, h2]

def resVals (P : Program) (a : Act) (w : World) : List ResultVar → List Value → Prop
  | [], [] => True
  | .tmp t :: rs, v :: vs => a.eval (.tmp t) = v ∧ resVals P a w rs vs
  | .cell t ty :: rs, v :: vs => (∃ ad, a.eval (.tmp t) = .pointer (some ad) ∧ (loadVar ty ad).run P w = .ok v w) ∧ resVals P a w rs vs
  | _, _ => False
def resF (tmps : Array Value) : ResultVar → Sem Value
  | .tmp t => pure (tmps.getD t undef)
  | .cell a t => do loadVar t (← asAddr (tmps.getD a undef))
theorem results_eq (fn : Func) (tmps : Array Value) : results fn tmps = (do let vs ← fn.results.mapM (resF tmps); pure (if h : vs.size = 1 then vs[0] else .tuple vs)) := by
  unfold results
  congr 2
theorem run_resVals {A : Act} : ∀ (rs : List ResultVar) (vs : List Value), resVals P A w rs vs → (rs.mapM (resF A.tmps)).run P w = .ok vs w
  | [], [], _ => by simp
  | [], _ :: _, h => h.elim
  | .tmp t :: rs, [], h => h.elim
  | .cell t ty :: rs, [], h => h.elim
  | .tmp t :: rs, v :: vs, h => by
    obtain ⟨h1, h2⟩ := h
    have h1' : A.tmps.getD t undef = v := h1
    have ih := run_resVals rs vs h2
    simp only [List.mapM_cons, resF, Sem.run_bind, Sem.run_pure, Result.andThen_ok, h1', ih]
  | .cell t ty :: rs, v :: vs, h => by
    obtain ⟨⟨ad, h1, h3⟩, h2⟩ := h
    have h1' : A.tmps.getD t undef = .pointer (some ad) := h1
    have ih := run_resVals rs vs h2
    have h4 : (asAddr (A.tmps.getD t undef)).run P w = .ok ad w := by rw [h1']; rfl
    simp only [List.mapM_cons, resF, Sem.run_bind, Sem.run_pure, Result.andThen_ok, h4, h3, ih]
theorem retN {fn : Func} {R : Ending → World → Prop} {rs : List ResultVar} {vs : List Value} {v : Value} (hr : fn.results = rs.toArray) (hd : a.defers = []) (hv : resVals P (putsL a l) w rs vs)
    (ht : (if h : vs.toArray.size = 1 then vs.toArray[0] else .tuple vs.toArray) = v) (h : R (.returned v) w) : bodyPost P fn R .ret (putsL a l) w := by
  refine ⟨by rw [putsL_defers, hd], v, ?_, h⟩
  rw [results_eq, hr, List.mapM_toArray]
  have := run_resVals rs vs hv
  rw [Sem.run_bind, Sem.run_map, this]
  simp only [Result.andThen_ok, Sem.run_pure, ht]

/-! ### one operation -/
theorem op_gen {o : Oper} {v : Value} (hg : o.guard = none) (hr : (execOp (putsL a l).eval o).run P w = .ok (.value v) w') (h : wpList P ops Q rest ((putsL a l).put o.dst v) w') : wpList P ops Q (o :: rest) (putsL a l) w :=
  wpList_plain hg fun K hK => by
    unfold Oper.wp
    rw [hr]
    exact hK _ _ h
theorem op_skip {o : Oper} (hg : o.guard = none) (hd : o.dst = none) (hr : (execOp (putsL a l).eval o).run P w = .ok .skip w') (h : wpList P ops Q rest (putsL a l) w') : wpList P ops Q (o :: rest) (putsL a l) w :=
  wpList_plain hg fun K hK => by
    unfold Oper.wp
    rw [hr]
    simp only [Oper.upon, hd, Act.put]
    exact hK _ _ h

section
variable {d ty : Nat} {p : String} {af : Array Edge} {x y z : Operand} {v u : Value}
theorem op_move (hx : (putsL a l).eval x = v) (h : wpList P ops Q rest (putsL a ((d, v) :: l)) w) : wpList P ops Q (⟨some d, .move x, ty, p, af, none⟩ :: rest) (putsL a l) w :=
  op_gen rfl (by simp [execOp, hx]) h
theorem op_assign (hx : (putsL a l).eval x = v) (h : wpList P ops Q rest (putsL a ((d, v) :: l)) w) : wpList P ops Q (⟨some d, .assign x, ty, p, af, none⟩ :: rest) (putsL a l) w :=
  op_gen rfl (by simp [execOp, hx]) h
theorem op_pick_t (hx : (putsL a l).eval x = .bool true) (hy : (putsL a l).eval y = v) (h : wpList P ops Q rest (putsL a ((d, v) :: l)) w) : wpList P ops Q (⟨some d, .pick x y z, ty, p, af, none⟩ :: rest) (putsL a l) w :=
  op_gen rfl (by simp [execOp, hx, hy, asBool]) h
theorem op_pick_f (hx : (putsL a l).eval x = .bool false) (hy : (putsL a l).eval z = v) (h : wpList P ops Q rest (putsL a ((d, v) :: l)) w) : wpList P ops Q (⟨some d, .pick x y z, ty, p, af, none⟩ :: rest) (putsL a l) w :=
  op_gen rfl (by simp [execOp, hx, hy, asBool]) h
theorem op_not {b : Bool} (hx : (putsL a l).eval x = .bool b) (h : wpList P ops Q rest (putsL a ((d, .bool (!b)) :: l)) w) {t : Nat} : wpList P ops Q (⟨some d, .unOp .not t x, ty, p, af, none⟩ :: rest) (putsL a l) w :=
  op_gen rfl (by simp [execOp, hx, Op.unary]) h
theorem op_extract {vs : Array Value} {i : Nat} (hx : (putsL a l).eval x = .tuple vs) (hi : vs[i]? = some v) (h : wpList P ops Q rest (putsL a ((d, v) :: l)) w) : wpList P ops Q (⟨some d, .extract x i, ty, p, af, none⟩ :: rest) (putsL a l) w :=
  op_gen rfl (by simp [execOp, hx, Instr.extract, hi]) h
/-! guards -/
theorem g_true {o oj : Oper} {j dj : Nat} {b : Bool} (hg : o.guard = some (j, b)) (hj : ops[j]? = some oj) (hd : oj.dst = some dj) (hv : (putsL a l).eval (.tmp dj) = .bool b)
    (h : wpList P ops Q (⟨o.dst, o.op, o.type, o.pos, o.after, none⟩ :: rest) (putsL a l) w) : wpList P ops Q (o :: rest) (putsL a l) w := by
  have hv' : (putsL a l).tmps.getD dj undef = .bool b := hv
  have hy : yielded ops (putsL a l).tmps j = some b := by
    unfold yielded
    simp only [hj, Option.bind_some, hd]
    rw [Array.getD_eq_getD_getElem?] at hv'
    cases hq : (putsL a l).tmps[dj]? with
    | none => rw [hq] at hv'; simp [undef] at hv'
    | some v => rw [hq] at hv'; simp at hv'; subst hv'; rfl
  unfold wpList at h ⊢
  have h1 : Region.wanted o (yielded ops (putsL a l).tmps) = true := by simp [Region.wanted, hg, hy]
  have h2 : Region.wanted ⟨o.dst, o.op, o.type, o.pos, o.after, none⟩ (yielded ops (putsL a l).tmps) = true := rfl
  rw [if_pos h2] at h
  rw [if_pos h1]
  exact h
theorem g_false {o oj : Oper} {j dj dd : Nat} {b c : Bool} (hg : o.guard = some (j, b)) (hj : ops[j]? = some oj) (hd : oj.dst = some dj) (hv : (putsL a l).eval (.tmp dj) = .bool c) (hne : (c == b) = false) (hdd : o.dst = some dd)
    (h : wpList P ops Q rest (putsL a ((dd, undef) :: l)) w) : wpList P ops Q (o :: rest) (putsL a l) w := by
  have hv' : (putsL a l).tmps.getD dj undef = .bool c := hv
  have hy : yielded ops (putsL a l).tmps j = some c := by
    unfold yielded
    simp only [hj, Option.bind_some, hd]
    rw [Array.getD_eq_getD_getElem?] at hv'
    cases hq : (putsL a l).tmps[dj]? with
    | none => rw [hq] at hv'; simp [undef] at hv'
    | some v => rw [hq] at hv'; simp at hv'; subst hv'; rfl
  unfold wpList
  have h1 : Region.wanted o (yielded ops (putsL a l).tmps) = false := by
    simp only [Region.wanted, hg, hy]
    cases c <;> cases b <;> simp_all
  simp only [h1, Bool.false_eq_true, if_false, hdd]
  exact h
end
end Go.Gx

/- Small laws for walks, the second part: numbers, texts, memory that is read, memory of one's own: no condition beyond those each law states. -/
namespace Go.Gx
open Go.RowKit

def bs (l : List UInt8) : ByteArray := ⟨l.toArray⟩
def u8v (b : UInt8) : Value := .int .u8 (b.toNat : Int)
def ptr (b off : Nat) : Value := .pointer (some ⟨b, off, none⟩)
theorem toList_loop (s : ByteArray) : ∀ (n i : Nat) (r : List UInt8), s.size - i = n → ByteArray.toList.loop s i r = r.reverse ++ s.data.toList.drop i
  | 0, i, r, h => by
    unfold ByteArray.toList.loop
    have : ¬ i < s.size := by omega
    rw [if_neg this, List.drop_of_length_le (by have : s.data.size = s.size := rfl; simp; omega)]
    simp
  | n + 1, i, r, h => by
    unfold ByteArray.toList.loop
    have hi : i < s.size := by omega
    have hi' : i < s.data.toList.length := by have : s.data.size = s.size := rfl; simp; omega
    rw [if_pos hi, toList_loop s n (i + 1) _ (by omega), List.drop_eq_getElem_cons hi']
    have hi2 : i < s.data.size := hi
    have e : s.data.toList[i] = s.get! i := by
      cases s; rename_i D; simp only [ByteArray.get!] ; rw [getElem!_pos D i hi2]; simp
    rw [e]; simp
theorem bs_toList (l : List UInt8) : (bs l).toList = l := by
  unfold ByteArray.toList
  rw [toList_loop (bs l) _ 0 [] rfl]
  simp [bs]
theorem bs_eq (a b : List UInt8) : ((bs a).toList == (bs b).toList) = decide (a = b) := by
  rw [bs_toList, bs_toList, Bool.eq_iff_iff]; simp

section
variable {P : Program} {Q : Exit → Act → World → Prop} {a : Act} {w w' : World} {l : List (Nat × Value)} {ops : Array Oper} {rest : List Oper}
variable {d ty xt yt : Nat} {p : String} {af : Array Edge} {x y z : Operand} {v u : Value} {k : IntKind} {m n r : Int}

/-! ### numbers -/
theorem op_bin {op : BinOp} {k' : IntKind} (hx : (putsL a l).eval x = .int k m) (hy : (putsL a l).eval y = .int k' n) (hb : (binOp op xt (.int k m) (.int k' n)).run P w = .ok v w) (h : wpList P ops Q rest (putsL a ((d, v) :: l)) w) :
    wpList P ops Q (⟨some d, .binOp op xt x y yt, ty, p, af, none⟩ :: rest) (putsL a l) w :=
  op_gen rfl (by simp only [execOp, hx, hy, eqGuard_at_int, Sem.run_bind, Sem.run_pure, Result.andThen_ok, hb]) h
theorem op_lss (hx : (putsL a l).eval x = .int k m) (hy : (putsL a l).eval y = .int k n) (ht : m < n → wpList P ops Q rest (putsL a ((d, .bool true) :: l)) w) (hf : ¬ m < n → wpList P ops Q rest (putsL a ((d, .bool false) :: l)) w) :
    wpList P ops Q (⟨some d, .binOp .lss xt x y yt, ty, p, af, none⟩ :: rest) (putsL a l) w := by
  by_cases h : m < n
  · exact op_bin (v := .bool true) hx hy (by rw [binOp_lss]; simp [h]) (ht h)
  · exact op_bin (v := .bool false) hx hy (by rw [binOp_lss]; simp [h]) (hf h)
theorem op_leq (hx : (putsL a l).eval x = .int k m) (hy : (putsL a l).eval y = .int k n) (ht : m ≤ n → wpList P ops Q rest (putsL a ((d, .bool true) :: l)) w) (hf : ¬ m ≤ n → wpList P ops Q rest (putsL a ((d, .bool false) :: l)) w) :
    wpList P ops Q (⟨some d, .binOp .leq xt x y yt, ty, p, af, none⟩ :: rest) (putsL a l) w := by
  by_cases h : m ≤ n
  · exact op_bin (v := .bool true) hx hy (by rw [binOp_leq]; simp [h]) (ht h)
  · exact op_bin (v := .bool false) hx hy (by rw [binOp_leq]; simp [h]) (hf h)
theorem op_gtr (hx : (putsL a l).eval x = .int k m) (hy : (putsL a l).eval y = .int k n) (ht : n < m → wpList P ops Q rest (putsL a ((d, .bool true) :: l)) w) (hf : ¬ n < m → wpList P ops Q rest (putsL a ((d, .bool false) :: l)) w) :
    wpList P ops Q (⟨some d, .binOp .gtr xt x y yt, ty, p, af, none⟩ :: rest) (putsL a l) w := by
  by_cases h : n < m
  · exact op_bin (v := .bool true) hx hy (by rw [binOp_gtr]; simp [h]) (ht h)
  · exact op_bin (v := .bool false) hx hy (by rw [binOp_gtr]; simp [h]; try omega) (hf h)
theorem op_eql (hx : (putsL a l).eval x = .int k m) (hy : (putsL a l).eval y = .int k n) (ht : m = n → wpList P ops Q rest (putsL a ((d, .bool true) :: l)) w) (hf : ¬ m = n → wpList P ops Q rest (putsL a ((d, .bool false) :: l)) w) :
    wpList P ops Q (⟨some d, .binOp .eql xt x y yt, ty, p, af, none⟩ :: rest) (putsL a l) w := by
  by_cases h : m = n
  · exact op_bin (v := .bool true) hx hy (by rw [binOp_eql]; simp [h]) (ht h)
  · exact op_bin (v := .bool false) hx hy (by rw [binOp_eql]; simp [h]) (hf h)
theorem op_add (hx : (putsL a l).eval x = .int k m) (hy : (putsL a l).eval y = .int k n) (hr : k.wrap (m + n) = r) (h : wpList P ops Q rest (putsL a ((d, .int k r) :: l)) w) :
    wpList P ops Q (⟨some d, .binOp .add xt x y yt, ty, p, af, none⟩ :: rest) (putsL a l) w :=
  op_bin hx hy (by rw [binOp_add]; simp [Op.intArith, hr]) h
theorem op_sub (hx : (putsL a l).eval x = .int k m) (hy : (putsL a l).eval y = .int k n) (hr : k.wrap (m - n) = r) (h : wpList P ops Q rest (putsL a ((d, .int k r) :: l)) w) :
    wpList P ops Q (⟨some d, .binOp .sub xt x y yt, ty, p, af, none⟩ :: rest) (putsL a l) w :=
  op_bin hx hy (by rw [binOp_sub]; simp [Op.intArith, hr]) h
theorem op_quo (hx : (putsL a l).eval x = .int k m) (hy : (putsL a l).eval y = .int k n) (hn : n ≠ 0) (hr : k.wrap (m.tdiv n) = r) (h : wpList P ops Q rest (putsL a ((d, .int k r) :: l)) w) :
    wpList P ops Q (⟨some d, .binOp .quo xt x y yt, ty, p, af, none⟩ :: rest) (putsL a l) w :=
  op_bin hx hy (by rw [binOp_quo]; simp [Op.intDiv, hr, hn]) h
theorem op_shr {k' : IntKind} (hx : (putsL a l).eval x = .int k m) (hy : (putsL a l).eval y = .int k' n) (h0 : 0 ≤ n) (hr : m.fdiv (2 ^ (min n.toNat k.bits)) = r) (h : wpList P ops Q rest (putsL a ((d, .int k r) :: l)) w) :
    wpList P ops Q (⟨some d, .binOp .shr xt x y yt, ty, p, af, none⟩ :: rest) (putsL a l) w :=
  op_bin hx hy (by
    have h0' : ¬ n < 0 := by omega
    subst hr
    rw [binOp_shr]
    simp only [Op.shift, h0', if_false]
    rfl) h
theorem op_conv {src dst : Nat} {k' : IntKind} (hx : (putsL a l).eval x = .int k m) (hs : (P.underlying src).isSome = true) (hd : P.underlying dst = some (.int k')) (hr : k'.wrap m = r) (h : wpList P ops Q rest (putsL a ((d, .int k' r) :: l)) w) :
    wpList P ops Q (⟨some d, .convert src dst x, ty, p, af, none⟩ :: rest) (putsL a l) w :=
  op_gen rfl (by
    obtain ⟨ds, hd'⟩ := Option.isSome_iff_exists.mp hs
    simp [execOp, hx, convert, run_underlying hd', run_underlying hd, Conv.intToInt, hr]) h
/-! ### texts -/
theorem op_seql {s t : List UInt8} (hx : (putsL a l).eval x = .string (bs s)) (hy : (putsL a l).eval y = .string (bs t)) (ht : s = t → wpList P ops Q rest (putsL a ((d, .bool true) :: l)) w) (hf : s ≠ t → wpList P ops Q rest (putsL a ((d, .bool false) :: l)) w) :
    wpList P ops Q (⟨some d, .binOp .eql xt x y yt, ty, p, af, none⟩ :: rest) (putsL a l) w := by
  have hb := bs_eq s t
  by_cases h : s = t
  · exact op_gen (v := .bool true) rfl (by simp [execOp, hx, hy, eqGuard_at_string, binOp, Op.stringOp, hb, h]) (ht h)
  · exact op_gen (v := .bool false) rfl (by simp [execOp, hx, hy, eqGuard_at_string, binOp, Op.stringOp, hb, h]) (hf h)
theorem op_sneq {s t : List UInt8} (hx : (putsL a l).eval x = .string (bs s)) (hy : (putsL a l).eval y = .string (bs t)) (ht : s ≠ t → wpList P ops Q rest (putsL a ((d, .bool true) :: l)) w) (hf : s = t → wpList P ops Q rest (putsL a ((d, .bool false) :: l)) w) :
    wpList P ops Q (⟨some d, .binOp .neq xt x y yt, ty, p, af, none⟩ :: rest) (putsL a l) w := by
  have hb := bs_eq s t
  by_cases h : s = t
  · exact op_gen (v := .bool false) rfl (by simp [execOp, hx, hy, eqGuard_at_string, binOp, Op.stringOp, hb, h]) (hf h)
  · exact op_gen (v := .bool true) rfl (by simp [execOp, hx, hy, eqGuard_at_string, binOp, Op.stringOp, hb, h]) (ht h)
/-! ### a call -/
def callOk (P : Program) (f : FuncId) : Bool := match P.funcs[f]? with | some fn => fn.name != "runtime.NumGoroutine" && fn.body.isSome | none => false
theorem run_callFunc {f : FuncId} (hf : callOk P f = true) (args : Array Value) : (callFunc f args).run P w = .ok (.enter f args) w := by
  unfold callOk at hf
  cases hq : P.funcs[f]? with
  | none => rw [hq] at hf; cases hf
  | some fn =>
    rw [hq] at hf
    simp only [Bool.and_eq_true, bne_iff_ne] at hf
    have hb : fn.body.isNone = false := by cases hc : fn.body <;> simp_all
    have hn : (fn.name == "runtime.NumGoroutine") = false := by simpa using hf.1
    unfold callFunc
    rw [Sem.run_bind, show (program).run P w = .ok P w from rfl]
    simp only [Result.andThen_ok, hq, hn, hb, Bool.false_eq_true, if_false, Sem.run_pure]
def Ret (P : Program) (f : FuncId) (args : Array Value) (w : World) (R : Value → World → Prop) : Prop := Calls P f args w fun e w' => ∃ v, e = .returned v ∧ R v w'
theorem Ret.mono {f : FuncId} {args : Array Value} {R R' : Value → World → Prop} (h : Ret P f args w R) (hr : ∀ v w', R v w' → R' v w') : Ret P f args w R' :=
  Calls.mono h fun _ w' ⟨v, he, hv⟩ => ⟨v, he, hr v w' hv⟩
theorem op_call {f : FuncId} {as9 : Array Operand} {ts : Array Nat} {vs : Array Value} {R : Value → World → Prop} (hf : callOk P f = true) (hm : as9.map (putsL a l).eval = vs) (hc : Ret P f vs w R)
    (h : ∀ v w', R v w' → wpList P ops Q rest (putsL a ((d, v) :: l)) w') : wpList P ops Q (⟨some d, .call ⟨.value (.func f), as9, ts⟩, ty, p, af, none⟩ :: rest) (putsL a l) w :=
  wpList_plain rfl fun K hK => by
    unfold Oper.wp
    have he : (execOp (putsL a l).eval ⟨some d, .call ⟨.value (.func f), as9, ts⟩, ty, p, af, none⟩).run P w = .ok (.enter f vs) w := by
      show (callFunc f (#[] ++ as9.map (putsL a l).eval ++ #[])).run P w = _
      rw [hm, run_callFunc hf]; simp
    rw [he]
    refine Calls.mono hc ?_
    rintro e w' ⟨v, rfl, hv⟩
    exact hK _ _ (h v w' hv)
theorem op_callv {f : FuncId} {as9 : Array Operand} {ts : Array Nat} {vs fs cs : Array Value} {R : Value → World → Prop} (hx : (putsL a l).eval x = .func (.func f) fs cs) (hf : callOk P f = true) (hm : as9.map (putsL a l).eval = vs) (hc : Ret P f (fs ++ vs ++ cs) w R)
    (h : ∀ v w', R v w' → wpList P ops Q rest (putsL a ((d, v) :: l)) w') : wpList P ops Q (⟨some d, .call ⟨.value x, as9, ts⟩, ty, p, af, none⟩ :: rest) (putsL a l) w :=
  wpList_plain rfl fun K hK => by
    unfold Oper.wp
    have he : (execOp (putsL a l).eval ⟨some d, .call ⟨.value x, as9, ts⟩, ty, p, af, none⟩).run P w = .ok (.enter f (fs ++ vs ++ cs)) w := by
      simp only [execOp, resolve, hx, Deferred.ofValue, invoke, Sem.run_bind, Sem.run_pure, Result.andThen_ok, hm, run_callFunc hf]
    rw [he]
    refine Calls.mono hc ?_
    rintro e w' ⟨v, rfl, hv⟩
    exact hK _ _ (h v w' hv)

/-! ### a loop -/
theorem loop_ghost {σ : Type} {c : Code} (I : σ → Act → World → Prop) (μ : σ → Nat) (s0 : σ) (N : Nat) {a : Act} {w : World} (hN : a.tmps.size = N) (hd : a.defers = []) (h0 : I s0 a w)
    (round : ∀ s a w, a.tmps.size = N → a.defers = [] → I s a w → c.wp P (Exit.then (fun a' w' => ∃ s', a'.tmps.size = N ∧ a'.defers = [] ∧ I s' a' w' ∧ μ s' < μ s) Q) a w) : (Code.loop c).wp P Q a w := by
  intro b k cs
  have key : ∀ (n : Nat) (s : σ) (a : Act) (w : World), μ s = n → a.tmps.size = N → a.defers = [] → I s a w →
      ∃ e a' w', Q e a' w' ∧ Arrives P (lone (b.at a (.code c :: .inLoop c :: k)) cs w) b k cs e a' w' := by
    intro n
    induction n using Nat.strongRecOn with
    | _ n ih =>
      intro s a w hn hN hd hI
      obtain ⟨e, a₁, w₁, hq, harr⟩ := round s a w hN hd hI b (.inLoop c :: k) cs
      cases e with
      | normal =>
        obtain ⟨s', hN', hd', hI', hlt⟩ := hq
        obtain ⟨e₂, a₂, w₂, hq₂, harr₂⟩ := ih (μ s') (hn ▸ hlt) s' a₁ w₁ rfl hN' hd' hI'
        exact ⟨e₂, a₂, w₂, hq₂, .of_steps (Steps.trans harr (.one step_inLoop)) harr₂⟩
      | exit id => exact ⟨_, a₁, w₁, hq, .pass (x := .inLoop c) rfl (fun _ _ => .inl (by simp)) harr⟩
      | goto l => exact ⟨_, a₁, w₁, hq, .pass (x := .inLoop c) rfl (fun _ _ => .inl (by simp)) harr⟩
      | ret => exact ⟨_, a₁, w₁, hq, .pass (x := .inLoop c) rfl (fun _ _ => .inl (by simp)) harr⟩
      | panic ch => exact ⟨_, a₁, w₁, hq, .pass (x := .inLoop c) rfl (fun _ _ => .inl (by simp)) harr⟩
      | outgrown => exact ⟨_, a₁, w₁, hq, .pass (x := .inLoop c) rfl (fun _ _ => .inl (by simp)) harr⟩
  obtain ⟨e, a', w', hq, harr⟩ := key _ s0 a w rfl hN hd h0
  exact ⟨e, a', w', hq, .of_steps (.one step_loop) harr⟩
theorem loop_m {c : Code} {N : Nat} (I : Nat → Act → World → Prop) (m0 : Nat) (hN : a.tmps.size = N) (hd : a.defers = []) (h0 : I m0 (putsL a l) w)
    (round : ∀ m a w, a.tmps.size = N → a.defers = [] → I m a w → c.wp P (Exit.then (fun a' w' => ∃ m', a'.tmps.size = N ∧ a'.defers = [] ∧ I m' a' w' ∧ m' < m) Q) (putsL a []) w) : (Code.loop c).wp P Q (putsL a l) w :=
  loop_ghost I (fun m => m) m0 N (slN hN) (by rw [putsL_defers, hd]) h0 fun s a w hN hd hI => round s a w hN hd hI
theorem loop_next {I : Nat → Act → World → Prop} {N m : Nat} (m' : Nat) (hN : a.tmps.size = N) (hd : a.defers = []) (h : I m' (putsL a l) w) (hlt : m' < m) :
    Exit.then (fun a' w' => ∃ m', a'.tmps.size = N ∧ a'.defers = [] ∧ I m' a' w' ∧ m' < m) Q .normal (putsL a l) w := ⟨m', slN hN, by rw [putsL_defers, hd], h, hlt⟩
theorem add64 {m n : Int} (h : -9223372036854775808 ≤ m + n ∧ m + n ≤ 9223372036854775807) : IntKind.i64.wrap (m + n) = m + n := by rw [IntKind.wrap_i64]; omega
theorem sub64 {m n : Int} (h : -9223372036854775808 ≤ m - n ∧ m - n ≤ 9223372036854775807) : IntKind.i64.wrap (m - n) = m - n := by rw [IntKind.wrap_i64]; omega
theorem wrap_u64 {m : Int} (h : 0 ≤ m ∧ m ≤ 18446744073709551615) : IntKind.u64.wrap m = m := by simp only [IntKind.wrap, IntKind.bits, IntKind.signed]; simp; omega
theorem wrap_i64 {m : Int} (h : -9223372036854775808 ≤ m ∧ m ≤ 9223372036854775807) : IntKind.i64.wrap m = m := by rw [IntKind.wrap_i64]; omega
end
end Go.Gx

/- Small laws for walks, the third part: memory: variables in blocks of their own, lists that are read, lists of one's own. -/
namespace Go.Gx
open Go.RowKit

/-! ### what is told of memory -/
def Bx (w : World) (b t : Nat) (cs : List Value) : Prop := w.heap[b]? = some (.cells cs.toArray t (0, 0))
def RdC (w : World) (L B sz : Nat) (v : Value) (n : Nat) (cs : List Value) : Prop :=
  cs.length = n * sz ∧ ∃ a c, v = .slice a n c ∧ n ≤ c ∧ c ≤ maxLen ∧ (cs = [] ∨ ∃ b off, a = some ⟨b, off, none⟩ ∧ L ≤ b ∧ b < B ∧ ∀ j u, cs[j]? = some u → w.cell? ⟨b, off + j, none⟩ = some u)
def Own (w : World) (base e sz : Nat) (v : Value) (n : Nat) (cs : List Value) : Prop :=
  cs.length = n * sz ∧ ((v = .slice none 0 0 ∧ n = 0) ∨
   ∃ g off cap cur fr, v = .slice (some ⟨g, off, none⟩) n cap ∧ base ≤ g ∧ w.heap[g]? = some (.cells cur e fr) ∧ (∀ j, j < cur.size → ¬ (fr.1 ≤ j ∧ j < fr.2)) ∧ n ≤ cap ∧ cap ≤ maxLen ∧ off + cap * sz ≤ cur.size ∧ (cur.toList.drop off).take (n * sz) = cs)

section
variable {P : Program} {w w' : World} {row : Option Nat} {b t g : Nat} {cs : List Value} {L B sz n base e : Nat} {v : Value}

theorem Bx.lt (h : Bx w b t cs) : b < w.heap.size := (Array.getElem?_eq_some_iff.1 h).1
theorem Bx.keep (h : Bx w b t cs) (E : w.grownBy w' row) (hne : some b ≠ row) : Bx w' b t cs := by
  unfold Bx; rw [E.block b h.lt hne]; exact h
theorem Bx.keep0 (h : Bx w b t cs) (E : w.grownBy w' none) : Bx w' b t cs := h.keep E (by simp)
theorem Bx.cell (h : Bx w b t cs) {j : Nat} {u : Value} (hu : cs[j]? = some u) : w.cell? ⟨b, j, none⟩ = some u := by
  have h' : w.heap[b]? = some (.cells cs.toArray t (0, 0)) := h
  simp [World.cell?, h', hu]
theorem Bx.free (h : Bx w b t cs) (j : Nat) : w.frozen? ⟨b, j, none⟩ = false := by
  have h' : w.heap[b]? = some (.cells cs.toArray t (0, 0)) := h
  simp [World.frozen?, h']
theorem RdC.keep (h : RdC w L B sz v n cs) (E : w.grownBy w' row) (hne : ∀ k, row = some k → k < L ∨ B ≤ k) : RdC w' L B sz v n cs := by
  obtain ⟨h0, a, c, hv, h1, h2, h3⟩ := h
  refine ⟨h0, a, c, hv, h1, h2, ?_⟩
  rcases h3 with h3 | ⟨b, off, ha, hL, hB, hc⟩
  · exact .inl h3
  · refine .inr ⟨b, off, ha, hL, hB, fun j u hu => ?_⟩
    have := hc j u hu
    rw [World.cell?_of_block (w := w) (E.block b (World.block_lt_of_cell? w _ this) (fun e => by have := hne b e.symm; omega))]
    exact this
theorem RdC.keep0 (h : RdC w L B sz v n cs) (E : w.grownBy w' none) : RdC w' L B sz v n cs := h.keep E (by simp)
theorem RdC.below (h : RdC w L B sz v n cs) (hb : Below B w w') : RdC w' L B sz v n cs := by
  obtain ⟨h0, a, c, hv, h1, h2, h3⟩ := h
  refine ⟨h0, a, c, hv, h1, h2, ?_⟩
  rcases h3 with h3 | ⟨b, off, ha, hL, hB, hc⟩
  · exact .inl h3
  · exact .inr ⟨b, off, ha, hL, hB, fun j u hu => by rw [hb.cell (p := ⟨b, off + j, none⟩) hB]; exact hc j u hu⟩
theorem RdC.mono {L' B' : Nat} (h : RdC w L B sz v n cs) (hL : L' ≤ L) (hB : B ≤ B') : RdC w L' B' sz v n cs := by
  obtain ⟨h0, a, c, hv, h1, h2, h3⟩ := h
  refine ⟨h0, a, c, hv, h1, h2, ?_⟩
  rcases h3 with h3 | ⟨b, off, ha, hL', hB', hc⟩
  · exact .inl h3
  · exact .inr ⟨b, off, ha, by omega, by omega, hc⟩
theorem RdC.nil (w : World) (L B sz : Nat) : RdC w L B sz (.slice none 0 0) 0 [] := ⟨by simp, none, 0, rfl, Nat.le_refl _, by unfold maxLen; omega, .inl rfl⟩
theorem RdC.ofBx (h : Bx w b t cs) (hl : cs.length = n * sz) (hn : n ≤ maxLen) : RdC w b (b + 1) sz (.slice (some ⟨b, 0, none⟩) n n) n cs :=
  ⟨hl, _, _, rfl, Nat.le_refl _, hn, .inr ⟨b, 0, rfl, Nat.le_refl _, by omega, fun j u hu => by rw [Nat.zero_add]; exact h.cell hu⟩⟩
theorem Own.ofBx (h : Bx w b t cs) (hl : cs.length = n * sz) (hn : n ≤ maxLen) (hb : base ≤ b) : Own w base t sz (.slice (some ⟨b, 0, none⟩) n n) n cs :=
  ⟨hl, .inr ⟨b, 0, n, cs.toArray, (0, 0), rfl, hb, h, by simp, Nat.le_refl _, hn, by simp [hl], by simp [← hl]⟩⟩
theorem Own.nil (w : World) (base e sz : Nat) : Own w base e sz (.slice none 0 0) 0 [] := ⟨by simp, .inl ⟨rfl, rfl⟩⟩
theorem Own.lt (h : Own w base e sz v n cs) : ∀ k, v.ownBlock = some k → base ≤ k ∧ k < w.heap.size := by
  intro k hk
  rcases h.2 with ⟨rfl, _⟩ | ⟨g, off, cap, cur, fr, rfl, hb, hg, _⟩
  · simp [Value.ownBlock] at hk
  · simp [Value.ownBlock] at hk
    subst hk
    exact ⟨hb, (Array.getElem?_eq_some_iff.1 hg).1⟩
theorem Own.keep (h : Own w base e sz v n cs) (E : w.grownBy w' row) (hne : row = none ∨ v.ownBlock ≠ row) : Own w' base e sz v n cs := by
  refine ⟨h.1, ?_⟩
  rcases h.2 with hn | ⟨g, off, cap, cur, fr, rfl, hb, hg, r⟩
  · exact .inl hn
  · refine .inr ⟨g, off, cap, cur, fr, rfl, hb, ?_, r⟩
    rw [E.block g (Array.getElem?_eq_some_iff.1 hg).1 (by rcases hne with rfl | hne; · simp
                                                          · simpa [Value.ownBlock] using hne)]
    exact hg
theorem Own.keep0 (h : Own w base e sz v n cs) (E : w.grownBy w' none) : Own w' base e sz v n cs := h.keep E (.inl rfl)
theorem Own.rd (h : Own w base e sz v n cs) {B : Nat} (hB : ∀ k, v.ownBlock = some k → k < B) : RdC w base B sz v n cs := by
  refine ⟨h.1, ?_⟩
  rcases h.2 with ⟨rfl, rfl⟩ | ⟨g, off, cap, cur, fr, rfl, hb, hg, _, hnc, hcm, hfit, htk⟩
  · exact ⟨none, 0, rfl, Nat.le_refl _, by unfold maxLen; omega, .inl (by simpa using h.1)⟩
  · refine ⟨_, cap, rfl, hnc, hcm, .inr ⟨g, off, rfl, hb, hB g rfl, fun j u hu => ?_⟩⟩
    have : w.cell? ⟨g, off + j, none⟩ = cur[off + j]? := by simp [World.cell?, hg]
    rw [this, ← htk] at *
    rw [List.getElem?_take] at hu
    split at hu
    · simpa using hu
    · cases hu
theorem Own.rdw (h : Own w base e sz v n cs) : RdC w base w.heap.size sz v n cs := h.rd fun k hk => (h.lt k hk).2
theorem Own.mono {base' : Nat} (h : Own w base e sz v n cs) (hb : base' ≤ base) : Own w base' e sz v n cs := by
  refine ⟨h.1, ?_⟩
  rcases h.2 with hn | ⟨g, off, cap, cur, fr, rfl, hb', r⟩
  · exact .inl hn
  · exact .inr ⟨g, off, cap, cur, fr, rfl, by omega, r⟩
theorem Bx.keepO (h : Bx w b t cs) {ws : List Value} (O : Own w base e sz v n ws) (E : w.grownBy w' v.ownBlock) (hne : t ≠ e) : Bx w' b t cs := by
  refine h.keep E ?_
  rcases O.2 with ⟨rfl, _⟩ | ⟨g, off, cap, cur, fr, rfl, hb, hg, _⟩
  · simp [Value.ownBlock]
  · simp only [Value.ownBlock, ne_eq, Option.some.injEq]
    rintro rfl
    have h' : w.heap[b]? = some (.cells cs.toArray t (0, 0)) := h
    rw [h'] at hg
    simp at hg
    exact hne hg.2.1
theorem RdC.keepO {ws : List Value} {v' : Value} {n' sz' : Nat} (h : RdC w L B sz' v' n' cs) (O : Own w base e sz v n ws) (E : w.grownBy w' v.ownBlock) (hne : B ≤ base) : RdC w' L B sz' v' n' cs :=
  h.keep E fun k hk => .inr (by have := (O.lt k hk).1; omega)
end

theorem grown_alloc (w : World) (o : Obj) : w.grownBy (w.alloc o) none := World.grownBy_alloc w o none
theorem grown_trans {w w1 w2 : World} {row : Option Nat} (h1 : w.grownBy w1 row) (h2 : w1.grownBy w2 row) : w.grownBy w2 row :=
  ⟨h2.os.trans h1.os, h2.tape.trans h1.tape, h2.output.trans h1.output, Nat.le_trans h1.size h2.size, fun k hk hr => (h2.block k (Nat.lt_of_lt_of_le hk h1.size) hr).trans (h1.block k hk hr)⟩
theorem grown_any {w w' : World} (h : w.grownBy w' none) (row : Option Nat) : w.grownBy w' row := ⟨h.os, h.tape, h.output, h.size, fun k hk _ => h.block k hk (by simp)⟩
theorem below_step0 {B : Nat} {w0 w w' : World} (h : Below B w0 w) (E : w.grownBy w' none) (hB : B ≤ w.heap.size) : Below B w0 w' := h.grown E hB (by simp)
theorem below_stepO {B base e sz n : Nat} {v : Value} {cs : List Value} {w0 w w' : World} (h : Below B w0 w) (O : Own w base e sz v n cs) (E : w.grownBy w' v.ownBlock) (hB : B ≤ w.heap.size) (hb : B ≤ base) : Below B w0 w' :=
  h.grown E hB fun k hk => by have := (O.lt k hk).1; omega
theorem below_step1 {B g : Nat} {w0 w w' : World} (h : Below B w0 w) (E : w.grownBy w' (some g)) (hB : B ≤ w.heap.size) (hb : B ≤ g) : Below B w0 w' :=
  h.grown E hB fun k hk => by simp at hk; omega
theorem grown_of_below {w w' : World} (h : Below w.heap.size w w') : w.grownBy w' none := ⟨h.os, h.tape, h.output, h.size, fun k hk _ => h.block k hk⟩
/-! ### types -/
def oneT (P : Program) (t : TypeId) : Bool := match P.underlying t with | some (.struct _) | some (.array ..) | none => false | _ => true
def aggT (P : Program) (t : TypeId) : Option Nat := match P.underlying t with | some (.struct _) | some (.array ..) => (P.info? t).map (·.size) | _ => none
def zeroT (P : Program) (t : TypeId) : Option Value := (P.info? t).bind (·.zero)
def fieldT (P : Program) (t i : Nat) : Option Nat := match P.underlying t with | some (.struct fs) => (fs[i]?).bind fun f => if ((P.info? f.type).map (·.size)).getD 0 = 0 then none else some f.offset | _ => none
structure SlT (P : Program) (t e : TypeId) (z : Value) (sz by_ : Nat) : Prop where
  und : P.underlying t = some (.slice e)
  info : (P.info? e).map (fun i => (i.zero, i.size, i.bytes)) = some (some z, sz, by_)
  zs : z.cells.size = sz
  pos : 0 < sz

section
variable {P : Program} {Q : Exit → Act → World → Prop} {a : Act} {w w' : World} {l : List (Nat × Value)} {ops : Array Oper} {rest : List Oper}
variable {d ty xt yt : Nat} {p : String} {af : Array Edge} {x y z : Operand} {v u : Value} {k : IntKind} {m n r : Int}

theorem run_isAgg_one {t : TypeId} (h : oneT P t = true) (w : World) : (isAgg t).run P w = .ok false w := by
  unfold oneT at h
  unfold isAgg
  cases hu : P.underlying t with
  | none => simp [hu] at h
  | some dd => cases dd <;> simp_all [run_underlying hu]
theorem run_isAgg_agg {t : TypeId} {s : Nat} (h : aggT P t = some s) (w : World) : (isAgg t).run P w = .ok true w ∧ (sizeOf t).run P w = .ok s w := by
  unfold aggT at h
  unfold isAgg sizeOf typeInfo
  cases hu : P.underlying t with
  | none => simp [hu] at h
  | some dd =>
    cases dd <;> simp_all [run_underlying hu] <;>
    (obtain ⟨i, hi, rfl⟩ := h; simp [hi])

theorem op_load1 {b off : Nat} (ht : oneT P xt = true) (hx : (putsL a l).eval x = ptr b off) (hc : w.cell? ⟨b, off, none⟩ = some v) (h : wpList P ops Q rest (putsL a ((d, v) :: l)) w) :
    wpList P ops Q (⟨some d, .load xt x, ty, p, af, none⟩ :: rest) (putsL a l) w :=
  op_gen rfl (by simp [execOp, hx, ptr, Instr.loadAt, Instr.sureAddr, loadVar, run_isAgg_one ht, run_load, hc]) h
theorem run_loadA {s b off : Nat} {cs : List Value} (ht : aggT P xt = some s) (hl : cs.length = s) (hc : ∀ j u, cs[j]? = some u → w.cell? ⟨b, off + j, none⟩ = some u) : (loadVar xt ⟨b, off, none⟩).run P w = .ok (.agg cs.toArray) w := by
  have hr := run_loadCells_list (P := P) w ⟨b, off, none⟩ cs (fun j u hu => by rw [Addr.add_lit]; exact hc j u hu)
  obtain ⟨h1, h2⟩ := run_isAgg_agg ht w
  rw [hl] at hr
  simp [loadVar, h1, h2, hr]
theorem op_loadA {s b off : Nat} {cs : List Value} (ht : aggT P xt = some s) (hl : cs.length = s) (hx : (putsL a l).eval x = ptr b off) (hc : ∀ j u, cs[j]? = some u → w.cell? ⟨b, off + j, none⟩ = some u) (h : wpList P ops Q rest (putsL a ((d, .agg cs.toArray) :: l)) w) :
    wpList P ops Q (⟨some d, .load xt x, ty, p, af, none⟩ :: rest) (putsL a l) w :=
  op_gen rfl (by
    have := run_loadA (P := P) (w := w) ht hl hc
    simp [execOp, hx, ptr, Instr.loadAt, Instr.sureAddr, this]) h
theorem op_field {b off i o : Nat} (hf : fieldT P xt i = some o) (hx : (putsL a l).eval x = ptr b off) (h : wpList P ops Q rest (putsL a ((d, ptr b (off + o)) :: l)) w) :
    wpList P ops Q (⟨some d, .fieldAddr xt x i, ty, p, af, none⟩ :: rest) (putsL a l) w :=
  op_gen (v := ptr b (off + o)) rfl (by
    unfold fieldT at hf
    cases hu : P.underlying xt with
    | none => simp [hu] at hf
    | some dd =>
      cases dd with
      | struct fs =>
        simp only [hu] at hf
        cases hq : fs[i]? with
        | none => simp [hq] at hf
        | some f =>
          simp only [hq, Option.bind_some] at hf
          split at hf
          · cases hf
          · rename_i hsz
            cases hf
            cases hi : P.info? f.type with
            | none => simp [hi] at hsz
            | some inf =>
              simp only [hi, Option.map_some, Option.getD_some] at hsz
              simp [execOp, hx, ptr, Instr.fieldAt, run_underlying hu, hq, Instr.sureAddr, fieldPlace, sizeOf, typeInfo, hi, hsz, Addr.add_lit]
      | _ => simp [hu] at hf) h
theorem op_nil {b off : Nat} (hx : (putsL a l).eval x = ptr b off) (h : wpList P ops Q rest (putsL a ((d, ptr b off) :: l)) w) :
    wpList P ops Q (⟨some d, .nilCheck x, ty, p, af, none⟩ :: rest) (putsL a l) w :=
  op_gen rfl (by simp [execOp, hx, ptr]) h

/-! making variables -/
theorem op_box {t : Nat} {cs : List Value} (hx : (putsL a l).eval x = v) (hc : v.cells.toList = cs) (h : ∀ w' b, w.heap.size ≤ b → b < w'.heap.size → Bx w' b t cs → w.grownBy w' none → wpList P ops Q rest (putsL a ((d, ptr b 0) :: l)) w') :
    wpList P ops Q (⟨some d, .box t x, ty, p, af, none⟩ :: rest) (putsL a l) w :=
  op_gen (w' := w.alloc (.cells v.cells t)) (v := ptr w.heap.size 0) rfl (by simp only [execOp, hx]; rfl)
    (h _ _ (Nat.le_refl _) (by simp) (by unfold Bx; rw [← hc]; exact heap_alloc_new w _) (grown_alloc w _))
theorem op_alloc {t : Nat} {cs : List Value} {zv : Value} (hz : zeroT P t = some zv) (hc : zv.cells.toList = cs) (h : ∀ w' b, w.heap.size ≤ b → b < w'.heap.size → Bx w' b t cs → w.grownBy w' none → wpList P ops Q rest (putsL a ((d, ptr b 0) :: l)) w') :
    wpList P ops Q (⟨some d, .alloc t, ty, p, af, none⟩ :: rest) (putsL a l) w :=
  op_gen (w' := w.alloc (.cells zv.cells t)) (v := ptr w.heap.size 0) rfl (by
    unfold zeroT at hz
    obtain ⟨i, hi, hz'⟩ := Option.bind_eq_some_iff.1 hz
    have e : (zeroValue t).run P w = .ok zv w := by simp [zeroValue, typeInfo, hi, hz']
    simp only [execOp, Instr.alloc, Sem.run_bind, e, Result.andThen_ok]
    rfl)
    (h _ _ (Nat.le_refl _) (by simp) (by unfold Bx; rw [← hc]; exact heap_alloc_new w _) (grown_alloc w _))
end
end Go.Gx

/- Small laws for walks, the fourth part: stores, literals, len, index, cut, append, texts of bytes. -/
namespace Go.Gx
open Go.RowKit

def argsEv (ρ : Operand → Value) : List Operand → List Value → Prop
  | [], [] => True
  | x :: xs, v :: vs => ρ x = v ∧ argsEv ρ xs vs
  | _, _ => False
theorem argsEv_map {ρ : Operand → Value} : ∀ {xs : List Operand} {vs : List Value}, argsEv ρ xs vs → xs.map ρ = vs
  | [], [], _ => rfl
  | x :: xs, v :: vs, h => by rw [List.map_cons, h.1, argsEv_map h.2]
  | [], _ :: _, h => h.elim
  | _ :: _, [], h => h.elim
def partsEv (ρ : Operand → Value) : List (Nat × Operand) → List (Nat × Value) → Prop
  | [], [] => True
  | (i, x) :: xs, (j, v) :: vs => i = j ∧ ρ x = v ∧ partsEv ρ xs vs
  | _, _ => False
theorem partsEv_map {ρ : Operand → Value} : ∀ {xs : List (Nat × Operand)} {vs : List (Nat × Value)}, partsEv ρ xs vs → (xs.map fun q => (q.1, ρ q.2)) = vs
  | [], [], _ => rfl
  | (i, x) :: xs, (j, v) :: vs, h => by obtain ⟨rfl, rfl, h⟩ := h; rw [List.map_cons, partsEv_map h]
  | [], _ :: _, h => h.elim
  | _ :: _, [], h => h.elim

section
variable {P : Program} {Q : Exit → Act → World → Prop} {a : Act} {w w' : World} {l : List (Nat × Value)} {ops : Array Oper} {rest : List Oper}
variable {d ty xt yt t e : Nat} {p : String} {af : Array Edge} {x y z : Operand} {v u : Value} {k : IntKind} {m n r : Int}

theorem op_fn {f : FuncId} {as9 : List Operand} {ts : Array Nat} {vs : List Value} {R : Value → World → Prop} (hf : callOk P f = true) (hm : argsEv (putsL a l).eval as9 vs) (hc : Ret P f vs.toArray w R)
    (h : ∀ v w', R v w' → wpList P ops Q rest (putsL a ((d, v) :: l)) w') : wpList P ops Q (⟨some d, .call ⟨.value (.func f), as9.toArray, ts⟩, ty, p, af, none⟩ :: rest) (putsL a l) w :=
  op_call hf (by rw [List.map_toArray, argsEv_map hm]) hc h
theorem op_fnv {f : FuncId} {as9 : List Operand} {ts : Array Nat} {vs fs cs : List Value} {R : Value → World → Prop} (hx : (putsL a l).eval x = .func (.func f) fs.toArray cs.toArray) (hf : callOk P f = true) (hm : argsEv (putsL a l).eval as9 vs) (hc : Ret P f (fs ++ vs ++ cs).toArray w R)
    (h : ∀ v w', R v w' → wpList P ops Q rest (putsL a ((d, v) :: l)) w') : wpList P ops Q (⟨some d, .call ⟨.value x, as9.toArray, ts⟩, ty, p, af, none⟩ :: rest) (putsL a l) w :=
  op_callv hx hf (by rw [List.map_toArray, argsEv_map hm]) (by simpa using hc) h

theorem op_build {ps : List (Nat × Operand)} {pv : List (Nat × Value)} (hp : partsEv (putsL a l).eval ps pv) (hb : (Instr.build t pv.toArray).run P w = .ok v w) (h : wpList P ops Q rest (putsL a ((d, v) :: l)) w) :
    wpList P ops Q (⟨some d, .build t ps.toArray, ty, p, af, none⟩ :: rest) (putsL a l) w :=
  op_gen rfl (by
    have e : (ps.toArray.map fun (q : Nat × Operand) => (q.1, (putsL a l).eval q.2)) = pv.toArray := by rw [List.map_toArray, partsEv_map hp]
    show (do let r ← Instr.build t (ps.toArray.map fun (q : Nat × Operand) => (q.1, (putsL a l).eval q.2)); pure (Next.value r) : Sem Next).run P w = _
    rw [e, Sem.run_bind, hb]; rfl) h
theorem op_bslice {ps : List (Nat × Operand)} {pv : List (Nat × Value)} {len : Nat} {cs : List Value} (hp : partsEv (putsL a l).eval ps pv)
    (hb : (Instr.buildSlice t len pv.toArray).run P w = .ok (.slice (some ⟨w.heap.size, 0, none⟩) len len) (w.alloc (.cells cs.toArray e)))
    (h : ∀ w' b, w.heap.size ≤ b → b < w'.heap.size → Bx w' b e cs → w.grownBy w' none → wpList P ops Q rest (putsL a ((d, .slice (some ⟨b, 0, none⟩) len len) :: l)) w') :
    wpList P ops Q (⟨some d, .buildSlice t len ps.toArray, ty, p, af, none⟩ :: rest) (putsL a l) w :=
  op_gen rfl (by
    have e : (ps.toArray.map fun (q : Nat × Operand) => (q.1, (putsL a l).eval q.2)) = pv.toArray := by rw [List.map_toArray, partsEv_map hp]
    show (do let r ← Instr.buildSlice t len (ps.toArray.map fun (q : Nat × Operand) => (q.1, (putsL a l).eval q.2)); pure (Next.value r) : Sem Next).run P w = _
    rw [e, Sem.run_bind, hb]; rfl)
    (h _ _ (Nat.le_refl _) (by simp) (heap_alloc_new w _) (grown_alloc w _))

theorem op_store {b off s T : Nat} {vs cs cs' : List Value} (ht : (P.info? t).map (·.size) = some s) (hx : (putsL a l).eval x = ptr b off) (hy : (putsL a l).eval y = v) (hv : v.cells.toList = vs) (hs : vs.length = s) (h1 : vs.all Value.oneCell' = true)
    (hb : Bx w b T cs) (hfit : off + vs.length ≤ cs.length) (hcs : cs.take off ++ vs ++ cs.drop (off + vs.length) = cs')
    (h : ∀ w', Bx w' b T cs' → w.grownBy w' (some b) → wpList P ops Q rest (putsL a l) w') : wpList P ops Q (⟨none, .store t x y, ty, p, af, none⟩ :: rest) (putsL a l) w :=
  op_skip rfl rfl (w' := w.setRow b cs'.toArray) (by
    obtain ⟨i, hi, hsz⟩ := Option.map_eq_some_iff.1 ht
    have hst := run_storeCells_at P b off T vs 0 cs.toArray w hb (by simpa using hfit) (fun u hu => (List.all_eq_true.1 h1) u hu)
    have hz : v.cells.size = i.size := by rw [hsz, ← hs, ← hv]; simp
    simp only [Nat.add_zero] at hst
    rw [hcs] at hst
    show (do Instr.storeAt t ((putsL a l).eval x) ((putsL a l).eval y); pure Next.skip : Sem Next).run P w = _
    rw [hx, hy]
    simp only [Instr.storeAt, Instr.sureAddr, ptr, storeVar, sizeOf, typeInfo, program, Sem.run_bind, Sem.run_pure, Result.andThen_ok]
    rw [show (Sem.program Sem.pure).run P w = .ok P w from rfl]
    simp only [Result.andThen_ok, hi, Sem.run_pure, hz, ne_eq, not_true_eq_false, if_false, hv, hst])
    (h _ (by unfold Bx; rw [setRow_heap w b cs.toArray _ T _ hb]) ⟨rfl, rfl, rfl, by simp, fun k _ hk => setRow_other w b k _ (fun e => hk (by rw [e]))⟩)

/-! ### lists that are read -/
theorem op_len_rd {L B sz c : Nat} {cs : List Value} (ht : P.underlying t = some (.slice e)) (hx : (putsL a l).eval x = v) (hr : RdC w L B sz v c cs) (h : wpList P ops Q rest (putsL a ((d, .int .i64 (c : Int)) :: l)) w) :
    wpList P ops Q (⟨some d, .call ⟨.builtin .len, #[x], #[t]⟩, ty, p, af, none⟩ :: rest) (putsL a l) w := by
  obtain ⟨_, ad, c', rfl, _⟩ := hr
  exact op_gen rfl (by simp [execOp, hx, resolve, invoke, builtin, Builtin.len_, run_underlying ht, goInt]) h
theorem op_index_rd {L B sz c : Nat} {cs : List Value} {i : Int} {z : Value} {by_ : Nat} (T : SlT P xt e z sz by_) (hx : (putsL a l).eval x = v) (hr : RdC w L B sz v c cs) (hy : (putsL a l).eval y = .int k i) (h0 : 0 ≤ i) (h1 : i < (c : Int))
    (h : ∀ b off, L ≤ b → b < B → (∀ j u, j < sz → cs[i.toNat * sz + j]? = some u → w.cell? ⟨b, off + j, none⟩ = some u) → wpList P ops Q rest (putsL a ((d, ptr b off) :: l)) w) :
    wpList P ops Q (⟨some d, .indexAddr xt x y, ty, p, af, none⟩ :: rest) (putsL a l) w := by
  obtain ⟨hl, ad, c', rfl, _, _, hc⟩ := hr
  have hpos := T.pos
  rcases hc with rfl | ⟨b, off, rfl, hL, hB, hc⟩
  · exfalso
    have : c * sz = 0 := by simpa using hl.symm
    rcases Nat.mul_eq_zero.1 this with h | h <;> omega
  · obtain ⟨inf, hi, hz0, hz1, hz2⟩ := info_parts T.info
    refine op_gen (v := ptr b (off + i.toNat * sz)) rfl ?_ (h b (off + i.toNat * sz) hL hB fun j u hj hu => by rw [Nat.add_assoc]; exact hc _ _ hu)
    have hand : (0 ≤ i ∧ i < (c : Int)) := ⟨h0, h1⟩
    simp [execOp, hx, hy, Instr.indexAt, asIntOf, run_underlying T.und, sizeOf, typeInfo, hi, hz1, hand, ptr, Addr.add_lit]
theorem take_drop_get {α : Type} (cs : List α) (s m j : Nat) (u : α) (h : ((cs.drop s).take m)[j]? = some u) : cs[s + j]? = some u := by
  rw [List.getElem?_take] at h
  split at h
  · simpa using h
  · cases h
theorem run_slice_rd {L B sz c lo hi : Nat} {cs : List Value} {z : Value} {by_ : Nat} {low high : Option Value} (T : SlT P t e z sz by_) (hr : RdC w L B sz v c cs)
    (hlo : (low = none ∧ lo = 0) ∨ ∃ k, low = some (.int k (lo : Int))) (hhi : (high = none ∧ hi = c) ∨ ∃ k, high = some (.int k (hi : Int))) (h1 : lo ≤ hi) (h2 : hi ≤ c) :
    ∃ v', (Instr.sliceAt t v low high none).run P w = .ok v' w ∧ RdC w L B sz v' (hi - lo) ((cs.drop (lo * sz)).take ((hi - lo) * sz)) := by
  obtain ⟨hl, ad, cp, rfl, hcc, hcm, hc⟩ := hr
  obtain ⟨inf, hi', hz0, hz1, hz2⟩ := info_parts T.info
  refine ⟨.slice (if cp = lo then ad else ad.map (·.add (lo * sz))) (hi - lo) (cp - lo), ?_, ?_⟩
  · rcases hlo with ⟨rfl, rfl⟩ | ⟨k, rfl⟩ <;> rcases hhi with ⟨rfl, rfl⟩ | ⟨k', rfl⟩
    · simp [Instr.sliceAt, Instr.slice, run_underlying T.und, Instr.sliceBounds, sizeOf, typeInfo, hi', hz1]
    · have q1 : hi ≤ cp := by omega
      have q3 : ¬ cp < hi := by omega
      simp [q3, Instr.sliceAt, Instr.slice, run_underlying T.und, Instr.sliceBounds, Instr.sliceBound, asIntOf, sizeOf, typeInfo, hi', hz1, q1]
    · have q1 : lo ≤ hi := by omega
      have q3 : ¬ hi < lo := by omega
      simp [q3, Instr.sliceAt, Instr.slice, run_underlying T.und, Instr.sliceBounds, Instr.sliceBound, asIntOf, sizeOf, typeInfo, hi', hz1, q1]
    · have q1 : lo ≤ hi := by omega
      have q2 : hi ≤ cp := by omega
      simp [Instr.sliceAt, Instr.slice, run_underlying T.und, Instr.sliceBounds, Instr.sliceBound, asIntOf, sizeOf, typeInfo, hi', hz1, q1, q2]
  · have hlen : ((cs.drop (lo * sz)).take ((hi - lo) * sz)).length = (hi - lo) * sz := by
      rw [List.length_take, List.length_drop, hl, ← Nat.sub_mul]
      exact Nat.min_eq_left (Nat.mul_le_mul_right _ (by omega))
    refine ⟨hlen, _, _, rfl, by omega, by omega, ?_⟩
    rcases hc with rfl | ⟨b, off, rfl, hL, hB, hc⟩
    · exact .inl (by simp)
    · by_cases he : cp = lo
      · refine .inl (List.eq_nil_of_length_eq_zero ?_)
        rw [hlen]
        have : hi - lo = 0 := by omega
        rw [this, Nat.zero_mul]
      · refine .inr ⟨b, off + lo * sz, ?_, hL, hB, fun j u hu => ?_⟩
        · rw [if_neg he]; simp [Addr.add_lit]
        · rw [Nat.add_assoc]
          exact hc _ _ (take_drop_get _ _ _ _ _ hu)
end
end Go.Gx

/- Small laws for walks, the fifth part: append, make, copies of texts, cuts. -/
namespace Go.Gx
open Go.RowKit

def setsAt (cur : Array Value) : Nat → List Value → Array Value
  | _, [] => cur
  | o, v :: r => setsAt (cur.setIfInBounds o v) (o + 1) r
theorem size_setsAt : ∀ (vs : List Value) (o : Nat) (cur : Array Value), (setsAt cur o vs).size = cur.size
  | [], _, _ => rfl
  | v :: r, o, cur => by rw [setsAt, size_setsAt r]; simp
theorem get_setsAt : ∀ (vs : List Value) (o : Nat) (cur : Array Value) (j : Nat), o + vs.length ≤ cur.size → (setsAt cur o vs)[j]? = if o ≤ j ∧ j < o + vs.length then vs[j - o]? else cur[j]?
  | [], o, cur, j, _ => by
    have : ¬ (o ≤ j ∧ j < o + ([] : List Value).length) := by rintro ⟨h1, h2⟩; simp at h2; omega
    rw [if_neg this]; rfl
  | v :: r, o, cur, j, h => by
    rw [setsAt, get_setsAt r (o + 1) _ j (by simp at h ⊢; omega)]
    by_cases h1 : o + 1 ≤ j ∧ j < o + 1 + r.length
    · rw [if_pos h1, if_pos (by simp; omega), show j - o = (j - (o + 1)) + 1 by omega]; rfl
    · rw [if_neg h1]
      by_cases h2 : o = j
      · subst h2
        have : o < cur.size := by simp at h; omega
        rw [if_pos (by simp)]
        simp [this]
      · rw [if_neg (by simp; omega), Array.getElem?_setIfInBounds_ne h2]
theorem heap_setCells (b : Nat) (e : TypeId) (fr : Nat × Nat) : ∀ (vs : List Value) (o : Nat) (w : World) (cur : Array Value), w.heap[b]? = some (.cells cur e fr) → (w.setCells b o vs).heap[b]? = some (.cells (setsAt cur o vs) e fr)
  | [], _, _, _, h => h
  | v :: r, o, w, cur, h => by
    rw [World.setCells]
    refine heap_setCells b e fr r (o + 1) _ (cur.setIfInBounds o v) ?_
    simp [World.setCell, Array.getElem?_modify, h]
theorem heap_setCells_ne (b k : Nat) (hne : k ≠ b) : ∀ (vs : List Value) (o : Nat) (w : World), (w.setCells b o vs).heap[k]? = w.heap[k]?
  | [], _, _ => rfl
  | v :: r, o, w => by
    rw [World.setCells, heap_setCells_ne b k hne r]
    exact Below.heap_setCell w ⟨b, o, none⟩ v k (by simpa using hne)
theorem rest_setCells (b : Nat) : ∀ (vs : List Value) (o : Nat) (w : World), (w.setCells b o vs).os = w.os ∧ (w.setCells b o vs).tape = w.tape ∧ (w.setCells b o vs).output = w.output ∧ (w.setCells b o vs).heap.size = w.heap.size
  | [], _, _ => ⟨rfl, rfl, rfl, rfl⟩
  | v :: r, o, w => by
    obtain ⟨h1, h2, h3, h4⟩ := rest_setCells b r (o + 1) (w.setCell ⟨b, o, none⟩ v)
    exact ⟨h1, h2, h3, by rw [World.setCells, h4]; simp [World.setCell]⟩
theorem grown_setCells (w : World) (b o : Nat) (vs : List Value) : w.grownBy (w.setCells b o vs) (some b) := by
  obtain ⟨h1, h2, h3, h4⟩ := rest_setCells b vs o w
  exact ⟨h1, h2, h3, by omega, fun k _ hk => heap_setCells_ne b k (fun e => hk (by rw [e])) vs o w⟩

theorem run_append_Own {P : Program} {w : World} {base t tx ty e sz by_ n m : Nat} {z v x : Value} {cs news : List Value} (T : SlT P t e z sz by_) (O : Own w base e sz v n cs) (S : Src P sz tx x m news w)
    (h63 : n + m ≤ maxLen) (hbytes : (n + m) * by_ ≤ 140737488355328) (hbase : base ≤ w.heap.size) :
    ∃ v' w', (Builtin.append_ #[t, tx] ty #[v, x]).run P w = .ok v' w' ∧ Own w' base e sz v' (n + m) (cs ++ news) ∧ w.grownBy w' v.ownBlock ∧ (v'.ownBlock = v.ownBlock ∨ ∀ k, v'.ownBlock = some k → w.heap.size ≤ k) := by
  obtain ⟨i, hi, hz, hsize, hby⟩ := info_parts T.info
  subst hsize
  subst hby
  have hpos := T.pos
  have hzs := T.zs
  have hm63 : ((n + m : Nat) : Int) ≤ 9223372036854775807 := by simp only [maxLen] at h63; omega
  have hlen : (cs ++ news).length = (n + m) * i.size := by rw [List.length_append, O.1, S.newsLen, Nat.add_mul]
  have grown : ∀ (old : Nat), 
      Own (w.drew.alloc (.cells ((cs ++ news).toArray ++ Builtin.zeroCells z.cells (grownCap w (n + m) old e - (n + m))) e)) base e i.size (.slice (some ⟨w.heap.size, 0, none⟩) (n + m) (grownCap w (n + m) old e)) (n + m) (cs ++ news) := by
    intro old
    have hge := grownCap_ge w (n + m) old e
    have hcm : grownCap w (n + m) old e ≤ maxLen := grownCap_le_maxLen w (n + m) old e h63
    refine ⟨hlen, .inr ⟨w.heap.size, 0, _, _, (0, 0), rfl, hbase, heap_alloc_new w.drew _, by simp, hge, hcm, ?_, ?_⟩⟩
    · simp only [Array.size_append, List.size_toArray, size_zeroCells, hzs, hlen, ← Nat.add_mul, Nat.zero_add]
      exact Nat.le_of_eq (by congr 1; omega)
    · simp only [Array.toList_append, List.drop_zero]
      rw [← hlen]
      exact List.take_left
  have gg : ∀ (o : Obj) row, w.grownBy (w.drew.alloc o) row := fun o row => ⟨rfl, rfl, rfl, by simp, fun k hk _ => Below.heap_alloc w.drew o k hk⟩
  rcases O.2 with ⟨rfl, rfl⟩ | ⟨g, off, cap, cur, fr, rfl, hbg, hg, hfr, hnc, hcm, hfit, htk⟩
  · have hx : cs = [] := List.eq_nil_of_length_eq_zero (by simpa using O.1)
    subst hx
    by_cases hm : m = 0
    · subst hm
      have hn : news = [] := List.eq_nil_of_length_eq_zero (by simpa using S.newsLen)
      subst hn
      refine ⟨.slice none 0 0, w, ?_, Own.nil w base e i.size, ⟨rfl, rfl, rfl, Nat.le_refl _, fun _ _ _ => rfl⟩, .inl rfl⟩
      rcases S.kind with ⟨e', hk⟩ | hk <;> simp [Builtin.append_, run_underlying T.und, run_underlying hk, sizeOf, typeInfo, hi, S.len, S.cells]
    · have hr := run_append_grow_src (P := P) w t tx ty e i z T.und hi hz none 0 0 [] (by simp [Builtin.firstCells]) x m news S (by omega) (by simpa using hm63) (growslice_fits (by omega) (by simpa using hbytes))
      have G := grown 0
      simp only [Nat.zero_add, List.nil_append] at hr G hlen ⊢
      exact ⟨_, _, hr, G, gg _ _, .inr (by simp [Value.ownBlock])⟩
  · by_cases hroom : n + m ≤ cap
    · have hin : off + n * i.size + news.length ≤ cur.size := by
        rw [S.newsLen, Nat.add_assoc, ← Nat.add_mul]
        exact Nat.le_trans (Nat.add_le_add_left (Nat.mul_le_mul_right _ hroom) _) hfit
      have hr := run_append_room_src (P := P) w t tx ty e i T.und hi g off n cap x m news S hroom
        (fun j hj => by
          have : off + n * i.size + j < cur.size := by omega
          simp [World.cell?, hg, this])
        (fun j hj => by
          have : off + n * i.size + j < cur.size := by omega
          have h2 := hfr _ this
          simp only [World.frozen?, hg]
          rw [← Bool.not_eq_true]
          intro h3
          simp at h3
          exact h2 h3)
      refine ⟨_, _, hr, ⟨hlen, .inr ⟨g, off, cap, _, fr, rfl, hbg, heap_setCells g e fr news _ w cur hg, ?_, hroom, hcm, ?_, ?_⟩⟩, grown_setCells w g _ news, .inl rfl⟩
      · rw [size_setsAt]; exact hfr
      · rw [size_setsAt]; exact hfit
      · apply List.ext_getElem?
        intro j
        rw [List.getElem?_take, List.getElem?_drop]
        have hcsl := O.1
        have hnl := S.newsLen
        have hmul : (n + m) * i.size = n * i.size + m * i.size := Nat.add_mul _ _ _
        by_cases hj : j < (n + m) * i.size
        · rw [if_pos hj, Array.getElem?_toList, get_setsAt _ _ _ _ hin]
          by_cases hj2 : j < n * i.size
          · rw [if_neg (by omega), List.getElem?_append_left (by omega), ← htk, List.getElem?_take, if_pos hj2, List.getElem?_drop, Array.getElem?_toList]
          · rw [if_pos (by omega), List.getElem?_append_right (by omega)]
            congr 1
            omega
        · rw [if_neg hj, List.getElem?_eq_none (by rw [hlen]; omega)]
    · have holds : ∀ j u, cs[j]? = some u → w.drew.cell? ((⟨g, off, none⟩ : Addr).add j) = some u := by
        intro j u hu
        rw [Addr.add_lit]
        have : w.cell? ⟨g, off + j, none⟩ = cur[off + j]? := by simp [World.cell?, hg]
        show w.cell? ⟨g, off + j, none⟩ = some u
        rw [this]
        rw [← htk, List.getElem?_take] at hu
        split at hu
        · simpa using hu
        · cases hu
      have hr := run_append_grow_src (P := P) w t tx ty e i z T.und hi hz (some ⟨g, off, none⟩) n cap cs (run_firstCells_some w.drew i.size n ⟨g, off, none⟩ n cap cs O.1 holds) x m news S (by omega) hm63 (growslice_fits (by omega) hbytes)
      exact ⟨_, _, hr, grown cap, gg _ _, .inr (by simp [Value.ownBlock])⟩

theorem Src.ofRd {P : Program} {w : World} {L B sz tx m e' : Nat} {x : Value} {news : List Value} (hk : P.underlying tx = some (.slice e')) (hp : 0 < sz) (R : RdC w L B sz x m news) (h1 : news.all Value.oneCell' = true) : Src P sz tx x m news w := by
  obtain ⟨hl, ad, c, rfl, _, _, hc⟩ := R
  rcases hc with rfl | ⟨b, off, rfl, _, _, hc⟩
  · have hm : m = 0 := by
      have : m * sz = 0 := by simpa using hl.symm
      rcases Nat.mul_eq_zero.1 this with h | h <;> omega
    subst hm
    cases ad with
    | none => exact Src.ofNil w hk c
    | some q => exact Src.ofSlice w hk q 0 c [] (by simp) (by simp) (by simp)
  · exact Src.ofSlice w hk ⟨b, off, none⟩ m c news hl (fun j u hu => by rw [Addr.add_lit]; exact hc j u hu) (fun u hu => List.all_eq_true.1 h1 u hu)
section
variable {P : Program} {Q : Exit → Act → World → Prop} {a : Act} {w w' : World} {l : List (Nat × Value)} {ops : Array Oper} {rest : List Oper}
variable {d ty xt yt t e tx base sz by_ n m : Nat} {p : String} {af : Array Edge} {x y : Operand} {v u xv z : Value} {k : IntKind} {cs news : List Value}

theorem op_append (T : SlT P t e z sz by_) (hx : (putsL a l).eval x = v) (O : Own w base e sz v n cs) (hy : (putsL a l).eval y = xv) (S : Src P sz tx xv m news w)
    (h63 : n + m ≤ maxLen) (hbytes : (n + m) * by_ ≤ 140737488355328) (hbase : base ≤ w.heap.size)
    (h : ∀ v' w', Own w' base e sz v' (n + m) (cs ++ news) → w.grownBy w' v.ownBlock → (v'.ownBlock = v.ownBlock ∨ ∀ k, v'.ownBlock = some k → w.heap.size ≤ k) → wpList P ops Q rest (putsL a ((d, v') :: l)) w') :
    wpList P ops Q (⟨some d, .call ⟨.builtin .append, #[x, y], #[t, tx]⟩, ty, p, af, none⟩ :: rest) (putsL a l) w := by
  obtain ⟨v', w', hr, h2, h3, h4⟩ := run_append_Own (ty := ty) T O S h63 hbytes hbase
  exact op_gen rfl (by simp only [execOp, resolve, invoke, builtin, Sem.run_bind, Sem.run_pure, Result.andThen_ok, List.map_toArray, List.map_cons, List.map_nil, hx, hy, hr]) (h v' w' h2 h3 h4)

theorem op_str_of {src dst L B : Nat} {bl : List UInt8} (hs : P.underlying src = some (.slice e)) (he : P.underlying e = some (.int .u8)) (hd : P.underlying dst = some .string) (hx : (putsL a l).eval x = v) (R : RdC w L B 1 v n (bl.map u8v))
    (h : wpList P ops Q rest (putsL a ((d, .string (bs bl)) :: l)) w) : wpList P ops Q (⟨some d, .convert src dst x, ty, p, af, none⟩ :: rest) (putsL a l) w := by
  obtain ⟨hl, ad, c, rfl, _, _, hc⟩ := R
  have hn : n = bl.length := by simpa using hl.symm
  subst hn
  refine op_gen rfl ?_ h
  have hr : (convert src dst (.slice ad bl.length c)).run P w = .ok (.string (bs bl)) w := by
    rcases hc with hc | ⟨b, off, rfl, _, _, hc⟩
    · have : bl = [] := by simpa using hc
      subst this
      cases ad with
      | none => exact (run_convert_bytes_string w src dst e none 0 c hs he hd).trans rfl
      | some q => exact run_convert_bytes_back w src dst e q c [] hs he hd (fun j hj => by simp at hj)
    · exact run_convert_bytes_back w src dst e ⟨b, off, none⟩ c bl hs he hd (fun j hj => by rw [Addr.add_lit]; exact hc j _ (by simp [hj, u8v]))
  simp only [execOp, hx, Sem.run_bind, hr, Result.andThen_ok, Sem.run_pure]
/-! cuts -/
theorem op_slice_rd {L B c lo hi : Nat} {low high : Option Operand} (T : SlT P t e z sz by_) (hx : (putsL a l).eval x = v) (hr : RdC w L B sz v c cs)
    (hlo : (low = none ∧ lo = 0) ∨ ∃ q k, low = some q ∧ (putsL a l).eval q = .int k (lo : Int)) (hhi : (high = none ∧ hi = c) ∨ ∃ q k, high = some q ∧ (putsL a l).eval q = .int k (hi : Int)) (h1 : lo ≤ hi) (h2 : hi ≤ c)
    (h : ∀ v', RdC w L B sz v' (hi - lo) ((cs.drop (lo * sz)).take ((hi - lo) * sz)) → wpList P ops Q rest (putsL a ((d, v') :: l)) w) :
    wpList P ops Q (⟨some d, .slice t x low high none, ty, p, af, none⟩ :: rest) (putsL a l) w := by
  have hlo' : (low.map (putsL a l).eval = none ∧ lo = 0) ∨ ∃ k, low.map (putsL a l).eval = some (.int k (lo : Int)) := by
    rcases hlo with ⟨rfl, h⟩ | ⟨q, k, rfl, h⟩
    · exact .inl ⟨rfl, h⟩
    · exact .inr ⟨k, by simp [h]⟩
  have hhi' : (high.map (putsL a l).eval = none ∧ hi = c) ∨ ∃ k, high.map (putsL a l).eval = some (.int k (hi : Int)) := by
    rcases hhi with ⟨rfl, h⟩ | ⟨q, k, rfl, h⟩
    · exact .inl ⟨rfl, h⟩
    · exact .inr ⟨k, by simp [h]⟩
  obtain ⟨v', hrun, R⟩ := run_slice_rd (P := P) T hr hlo' hhi' h1 h2
  exact op_gen rfl (by simp only [execOp, hx, Option.map_none, Sem.run_bind, hrun, Result.andThen_ok, Sem.run_pure]) (h v' R)
end
end Go.Gx

/- Small laws for walks, the sixth part: a region whose order is open. What each operation leaves is told ahead; a chain of operations may write what is one's own. -/
namespace Go.Gx
open Go.RowKit

def safeB (ol : List Oper) (i t : Nat) : Bool := ol.all fun o => (o.dst != some t) || o.after.any fun e => e.on == i && Region.binds .any e
def depB (ol : List Oper) (i j : Nat) : Bool := match ol[i]? with | some o => o.after.any fun e => e.on == j && Region.binds .any e | none => false
def lexB' (ol : List Oper) : Bool := (List.range ol.length).all fun i => match ol[i]? with | some o => o.after.all fun e => !Region.binds .any e || Nat.blt e.on i | none => true
def dstsB (ol : List Oper) : Bool := (List.range ol.length).all fun i => (List.range ol.length).all fun j => i == j || (match ol[i]?, ol[j]? with | some o, some o' => o.dst != o'.dst || o.dst == none | _, _ => true)
structure Chain where
  ops : List Nat
  slot : Nat → Nat
def Chain.has (ch : Chain) (i : Nat) : Bool := ch.ops.contains i
def Chain.okB (ch : Chain) (ol : List Oper) : Bool :=
  ((List.range ch.ops.length).all fun c => c == 0 || depB ol (ch.ops.getD c 0) (ch.ops.getD (c - 1) 0)) &&
  ((List.range ol.length).all fun i => ch.has i || (match ol[i]? with | some o => (List.range (ch.ops.length + 1)).all fun c => (o.dst != some (ch.slot c)) || (Nat.blt c ch.ops.length && depB ol i (ch.ops.getD c 0)) | none => true)) &&
  (ch.ops.all fun i => Nat.blt i ol.length) && decide ch.ops.Nodup

section
variable {P : Program} {ol : List Oper} {Q : Exit → Act → World → Prop} {Φ : Nat → Value → World → Prop} {C : Nat → Value → World → Prop} {ch : Chain} {R : World → World → Prop} {a0 : Act} {N : Nat}

structure RInv (ol : List Oper) (Φ : Nat → Value → World → Prop) (C : Nat → Value → World → Prop) (ch : Chain) (a0 : Act) (N : Nat) (w0 : World) (R : World → World → Prop) (listed : Array Bool) (c : Nat) (a : Act) (w : World) : Prop where
  size : a.tmps.size = N
  defers : a.defers = a0.defers
  base : ∀ t, (∀ j o, ol[j]? = some o → listed.getD j true = true → o.dst ≠ some t) → a.tmps.getD t undef = a0.tmps.getD t undef
  phi : ∀ j o d, ol[j]? = some o → listed.getD j true = true → o.dst = some d → Φ j (a.tmps.getD d undef) w
  closed : ∀ j o, ol[j]? = some o → listed.getD j true = true → ∀ e ∈ o.after, Region.binds .any e = true → listed.getD e.on false = true
  lsize : listed.size = ol.length
  cle : c ≤ ch.ops.length
  chain : ∀ m i, ch.ops[m]? = some i → (listed.getD i true = true ↔ m < c)
  chainC : C c (a.tmps.getD (ch.slot c) undef) w
  rel : R w0 w

def ObN (P : Program) (ol : List Oper) (Φ : Nat → Value → World → Prop) (a0 : Act) (N : Nat) (w0 : World) (R : World → World → Prop) (i : Nat) (o : Oper) : Prop :=
  ∀ (a : Act) (w : World), a.tmps.size = N → R w0 w → (∀ t, safeB ol i t = true → a.tmps.getD t undef = a0.tmps.getD t undef) → (∀ j oj d, depB ol i j = true → ol[j]? = some oj → oj.dst = some d → Φ j (a.tmps.getD d undef) w) →
    wpList P ol.toArray (fun e a' w' => e = .normal ∧ (∃ d v, o.dst = some d ∧ a' = putsL a [(d, v)] ∧ Φ i v w') ∧ w.grownBy w' none) [o] (putsL a []) w
def ObC (P : Program) (ol : List Oper) (Φ : Nat → Value → World → Prop) (C : Nat → Value → World → Prop) (ch : Chain) (a0 : Act) (N : Nat) (w0 : World) (R : World → World → Prop) (c i : Nat) (o : Oper) : Prop :=
  ∀ (a : Act) (w : World), a.tmps.size = N → R w0 w → (∀ t, safeB ol i t = true → a.tmps.getD t undef = a0.tmps.getD t undef) → (∀ j oj d, depB ol i j = true → ol[j]? = some oj → oj.dst = some d → Φ j (a.tmps.getD d undef) w) →
    C c (a.tmps.getD (ch.slot c) undef) w →
    wpList P ol.toArray (fun e a' w' => e = .normal ∧ ((o.dst = none ∧ a' = a) ∨ ∃ d v, o.dst = some d ∧ a' = putsL a [(d, v)] ∧ Φ i v w') ∧ C (c + 1) (a'.tmps.getD (ch.slot (c + 1)) undef) w' ∧ R w w') [o] (putsL a []) w

theorem wp_one {o : Oper} {ops : Array Oper} {Q' : Exit → Act → World → Prop} {a : Act} {w : World} {K : Act → World → Prop} {i : Nat} (hi : ops[i]? = some o) (h : wpList P ops (fun e a w => e = .normal ∧ Q' e a w) [o] a w) (hk : ∀ a w, Q' .normal a w → K a w) : wpOp P ops Q i K a w := by
  unfold wpOp
  simp only [hi]
  unfold wpList at h
  split
  · rename_i hw
    rw [if_pos hw] at h
    rcases h with h | ⟨_, _, _, h, _⟩
    · refine .inl ?_
      unfold Oper.wp at h ⊢
      generalize (execOp a.eval o).run P w = r at *
      cases r with
      | ok n w' =>
        cases n <;> simp only [Oper.upon] at h ⊢
        case value u => exact hk _ _ h.2
        case skip => exact hk _ _ h.2
        case defer d => exact hk _ _ h.2
        case enter f args =>
          refine Calls.mono h fun e w'' he => ?_
          cases e with
          | returned u => exact hk _ _ he.2
          | panicked c => exact absurd he.1 (by simp)
          | outgrown => obtain ⟨_, _, h, _⟩ := he; exact absurd h (by simp)
        case row row args => exact Rows.mono h fun u w'' he => hk _ _ he.2
      | halt x w' =>
        cases x <;> simp only [Oper.upon] at h ⊢
        case panic u => exact absurd h.1 (by simp)
    · exact absurd h (by simp)
  · rename_i hw
    rw [if_neg (by simpa using hw)] at h
    exact hk _ _ h.2

theorem depB_spec {i j : Nat} {o : Oper} (hi : ol[i]? = some o) (h : depB ol i j = true) : ∃ e ∈ o.after, e.on = j ∧ Region.binds .any e = true := by
  unfold depB at h
  simp only [hi, Array.any_eq_true] at h
  obtain ⟨k, hk, h⟩ := h
  simp only [Bool.and_eq_true, beq_iff_eq] at h
  exact ⟨_, Array.getElem_mem hk, h.1, h.2⟩

theorem getD_of_false {listed : Array Bool} {j : Nat} (h : listed.getD j false = true) : listed.getD j true = true := by
  rcases Nat.lt_or_ge j listed.size with h' | h'
  · simp [Array.getD_eq_getD_getElem?, h'] at h ⊢; exact h
  · simp [Array.getD_eq_getD_getElem?, h']
theorem getD_true_lt {listed : Array Bool} {j : Nat} (h : listed.getD j true = true) (hlt : j < listed.size) : listed.getD j false = true := by
  simp [Array.getD_eq_getD_getElem?, hlt] at h ⊢; exact h

theorem countP_lt {α : Type} (p q : α → Bool) (hpq : ∀ y, q y = true → p y = true) : ∀ (l : List α) (x : α), x ∈ l → p x = true → q x = false → l.countP q < l.countP p
  | [], x, h, _, _ => by cases h
  | y :: l, x, h, hp, hq => by
    have hle : l.countP q ≤ l.countP p := List.countP_mono_left fun z _ hz => hpq z hz
    rw [List.countP_cons, List.countP_cons]
    rcases List.mem_cons.1 h with rfl | h
    · simp [hp, hq]; omega
    · have := countP_lt p q hpq l x h hp hq
      by_cases hy : q y = true
      · simp [hy, hpq y hy]; exact this
      · simp [hy]; omega
def dstNB (ol : List Oper) (N : Nat) : Bool := ol.all fun o => match o.dst with | some d => Nat.blt d N | none => true
theorem get_put_ne {a : Act} {d t : Nat} {v : Value} (h : d ≠ t) : (putsL a [(d, v)]).tmps.getD t undef = a.tmps.getD t undef := by
  simp [putsL, Act.put, Array.getD_eq_getD_getElem?, Array.getElem?_setIfInBounds_ne h]
theorem get_put_eq {a : Act} {d : Nat} {v : Value} (h : d < a.tmps.size) : (putsL a [(d, v)]).tmps.getD d undef = v := by
  simp [putsL, Act.put, Array.getD_eq_getD_getElem?, h]
theorem region_any_steps (hlex : lexB' ol = true) (hdn : dstNB ol N = true) (hdst : dstsB ol = true) (hch : ch.okB ol = true) (w0 : World)
    (hRt : ∀ w1 w2 w3, R w1 w2 → R w2 w3 → R w1 w3) (hR0 : ∀ w1 w2, w1.grownBy w2 none → R w1 w2)
    (hΦ : ∀ j u w1 w2, R w1 w2 → Φ j u w1 → Φ j u w2) (hC : ∀ c u w1 w2, w1.grownBy w2 none → C c u w1 → C c u w2)
    (obN : ∀ i o, ol[i]? = some o → ch.has i = false → ObN P ol Φ a0 N w0 R i o) (obC : ∀ c i o, ch.ops[c]? = some i → ol[i]? = some o → ObC P ol Φ C ch a0 N w0 R c i o)
    (fin : ∀ a w, RInv ol Φ C ch a0 N w0 R (Array.replicate ol.length true) ch.ops.length a w → Q .normal a w) :
    ∀ (fuel : Nat) (listed : Array Bool) (c : Nat) (a : Act) (w : World), RInv ol Φ C ch a0 N w0 R listed c a w → (List.range ol.length).countP (fun i => !listed.getD i true) ≤ fuel → wpAny P .any ol.toArray Q fuel listed a w := by
  have hch' := hch
  simp only [Chain.okB, Bool.and_eq_true] at hch'
  obtain ⟨⟨⟨hc1, hc2⟩, hc3⟩, hc4⟩ := hch'
  have done : ∀ (listed : Array Bool) (c : Nat) (a : Act) (w : World), RInv ol Φ C ch a0 N w0 R listed c a w → Region.ready .any ol.toArray listed = [] → Q .normal a w := by
    intro listed c a w I hr
    have hall : ∀ i, i < ol.length → listed.getD i true = true := by
      intro i
      induction i using Nat.strongRecOn with
      | _ i ih =>
        intro hi
        by_cases hq : listed.getD i true = true
        · exact hq
        · exfalso
          have hm : i ∈ Region.ready .any ol.toArray listed := by
            rw [mem_ready]
            refine ⟨by simpa using hq, ol[i], by simp [hi], fun e he hb => ?_⟩
            have h1 := List.all_eq_true.1 hlex i (by simp [hi])
            simp only [List.getElem?_eq_getElem hi, Array.all_eq_true_iff_forall_mem, Bool.or_eq_true, Bool.not_eq_true', Nat.blt_eq] at h1
            have h2 := (h1 e he).resolve_left (by simp [hb])
            exact getD_true_lt (ih e.on h2 (by omega)) (by rw [I.lsize]; omega)
          rw [hr] at hm
          cases hm
    have hl : listed = Array.replicate ol.length true := by
      apply Array.ext
      · simp [I.lsize]
      · intro i h1 h2
        have := hall i (by simpa using h2)
        simp [Array.getD_eq_getD_getElem?, h1] at this
        simp [this]
    have hcc : c = ch.ops.length := by
      rcases Nat.lt_or_ge c ch.ops.length with h | h
      · exfalso
        have h1 := (I.chain c ch.ops[c] (by simp [h])).1 (hall _ (by
          have := List.all_eq_true.1 hc3 ch.ops[c] (List.getElem_mem h)
          simpa [Nat.blt_eq] using this))
        omega
      · exact Nat.le_antisymm I.cle h
    subst hl; subst hcc
    exact fin a w I
  intro fuel
  induction fuel with
  | zero =>
    intro listed c a w I hcnt
    have hr : Region.ready .any ol.toArray listed = [] := by
      rw [List.eq_nil_iff_forall_not_mem]
      intro i hi
      obtain ⟨h1, o, ho, _⟩ := mem_ready.1 hi
      have hlt : i < ol.length := by simpa using (Array.getElem?_eq_some_iff.1 ho).1
      have hz : (List.range ol.length).countP (fun i => !listed.getD i true) = 0 := by omega
      rw [List.countP_eq_zero] at hz
      exact hz i (by simp [hlt]) (by simp [h1])
    exact ⟨hr, done listed c a w I hr⟩
  | succ fuel ih =>
    intro listed c a w I hcnt
    refine ⟨fun hr => done listed c a w I hr, fun i hi => ?_⟩
    obtain ⟨hun, o, ho, hwait⟩ := mem_ready.1 hi
    have ho' : ol[i]? = some o := by simpa using ho
    have hlt : i < ol.length := (List.getElem?_eq_some_iff.1 ho').1
    have hls : i < listed.size := by rw [I.lsize]; exact hlt
    have hcnt' : (List.range ol.length).countP (fun j => !(listed.setIfInBounds i true).getD j true) ≤ fuel := by
      have : (List.range ol.length).countP (fun j => !(listed.setIfInBounds i true).getD j true) < (List.range ol.length).countP (fun j => !listed.getD j true) := by
        refine countP_lt _ _ (fun y hy => ?_) _ i (by simp [hlt]) (by simp [hun]) (by simp [Array.getD_eq_getD_getElem?, hls])
        by_cases hiy : i = y
        · subst hiy; simp [Array.getD_eq_getD_getElem?, hls] at hy
        · rwa [getD_set_ne true hiy] at hy
      omega
    have hbase : ∀ t, safeB ol i t = true → a.tmps.getD t undef = a0.tmps.getD t undef := by
      intro t ht
      refine I.base t fun j oj hj hlj hd => ?_
      have h1 := List.all_eq_true.1 ht oj (List.mem_of_getElem? hj)
      simp only [Bool.or_eq_true, bne_iff_ne, ne_eq, Array.any_eq_true, Bool.and_eq_true, beq_iff_eq] at h1
      rcases h1 with h1 | ⟨q, hq, h1, h2⟩
      · exact h1 hd
      · have := getD_of_false (I.closed j oj hj hlj _ (Array.getElem_mem hq) h2)
        rw [h1, hun] at this
        cases this
    have hdep : ∀ j oj d, depB ol i j = true → ol[j]? = some oj → oj.dst = some d → Φ j (a.tmps.getD d undef) w := by
      intro j oj d hj hoj hd
      obtain ⟨e, he, h1, h2⟩ := depB_spec ho' hj
      exact I.phi j oj d hoj (getD_of_false (by rw [← h1]; exact hwait e he h2)) hd
    have hset : ∀ j, j ≠ i → (listed.setIfInBounds i true).getD j true = listed.getD j true := fun j hj => getD_set_ne true (Ne.symm hj)
    have hseti : (listed.setIfInBounds i true).getD i true = true := by simp [Array.getD_eq_getD_getElem?, hls]
    have hclosed : ∀ j oj, ol[j]? = some oj → (listed.setIfInBounds i true).getD j true = true → ∀ e ∈ oj.after, Region.binds .any e = true → (listed.setIfInBounds i true).getD e.on false = true := by
      intro j oj hoj hlj e he hb
      refine getD_set_true ?_
      by_cases hji : j = i
      · subst hji
        rw [ho'] at hoj; cases hoj
        exact hwait e he hb
      · rw [hset j hji] at hlj
        exact I.closed j oj hoj hlj e he hb
    have hne : ∀ j oj d, ol[j]? = some oj → j ≠ i → o.dst = some d → oj.dst ≠ some d := by
      intro j oj d hoj hji hd hd'
      have hj : j < ol.length := (List.getElem?_eq_some_iff.1 hoj).1
      have h1 := List.all_eq_true.1 (List.all_eq_true.1 hdst i (by simp [hlt])) j (by simp [hj])
      simp only [ho', hoj, Bool.or_eq_true, beq_iff_eq, bne_iff_ne, ne_eq] at h1
      rcases h1 with h1 | h1 | h1
      · exact hji h1.symm
      · exact h1 (by rw [hd, hd'])
      · rw [hd] at h1; cases h1
    -- what is left of the frame, behind a value in slot d
    have hframe : ∀ d v w', o.dst = some d → R w w' → Φ i v w' → 
        (∀ t, (∀ j oj, ol[j]? = some oj → (listed.setIfInBounds i true).getD j true = true → oj.dst ≠ some t) → (putsL a [(d, v)]).tmps.getD t undef = a0.tmps.getD t undef) ∧
        (∀ j oj d', ol[j]? = some oj → (listed.setIfInBounds i true).getD j true = true → oj.dst = some d' → Φ j ((putsL a [(d, v)]).tmps.getD d' undef) w') := by
      intro d v w' hd hR hv
      have hdN : d < a.tmps.size := by
        have h1 := List.all_eq_true.1 hdn o (List.mem_of_getElem? ho')
        simp only [hd, Nat.blt_eq] at h1
        rw [I.size]; exact h1
      refine ⟨fun t ht => ?_, fun j oj d' hoj hlj hd' => ?_⟩
      · have hdt : d ≠ t := fun e => ht i o ho' hseti (by rw [hd, e])
        rw [get_put_ne hdt]
        refine I.base t fun j oj hoj hlj => ?_
        by_cases hji : j = i
        · subst hji; rw [hun] at hlj; cases hlj
        · exact ht j oj hoj (by rw [hset j hji]; exact hlj)
      · by_cases hji : j = i
        · subst hji
          rw [ho'] at hoj; cases hoj
          rw [hd] at hd'; cases hd'
          rw [get_put_eq hdN]
          exact hv
        · rw [hset j hji] at hlj
          have : d ≠ d' := fun e => hne j oj d hoj hji hd (by rw [hd', e])
          rw [get_put_ne this]
          exact hΦ j _ w w' hR (I.phi j oj d' hoj hlj hd')
    by_cases hin : ch.has i = true
    · have hmem : i ∈ ch.ops := by simpa [Chain.has] using hin
      obtain ⟨c0, hc0, hci⟩ := List.getElem_of_mem hmem
      have hci' : ch.ops[c0]? = some i := by simp [hc0, hci]
      have hcc : c0 = c := by
        have h1 : ¬ c0 < c := fun h => by
          have := (I.chain c0 i hci').2 h
          rw [hun] at this; cases this
        rcases Nat.lt_or_ge c c0 with h2 | h2
        · exfalso
          have h3 := List.all_eq_true.1 hc1 c0 (by simp [hc0])
          have hz : (c0 == 0) = false := by simp; omega
          have hp : ch.ops.getD (c0 - 1) 0 = ch.ops[c0 - 1] := by simp [List.getD_eq_getElem?_getD, show c0 - 1 < ch.ops.length by omega]
          have hq : ch.ops.getD c0 0 = i := by simp [List.getD_eq_getElem?_getD, hc0, hci]
          rw [hz, hp, hq, Bool.false_or] at h3
          obtain ⟨e, he, h4, h5⟩ := depB_spec ho' h3
          have h6 := getD_of_false (hwait e he h5)
          rw [h4] at h6
          have := (I.chain (c0 - 1) ch.ops[c0 - 1] (by simp [show c0 - 1 < ch.ops.length by omega])).1 h6
          omega
        · omega
      subst hcc
      refine wp_one (by simpa using ho') (obC c0 i o hci' ho' a w I.size I.rel hbase hdep I.chainC) fun a' w' h => ?_
      obtain ⟨h1, h2, h3⟩ := h
      have hchain : ∀ m i', ch.ops[m]? = some i' → ((listed.setIfInBounds i true).getD i' true = true ↔ m < c0 + 1) := by
        intro m i' hm
        by_cases hii : i' = i
        · subst hii
          have : m = c0 := by
            have hnd : ch.ops.Nodup := of_decide_eq_true hc4
            have hmlt : m < ch.ops.length := (List.getElem?_eq_some_iff.1 hm).1
            exact (List.getElem?_inj hmlt hnd).1 (by rw [hm, hci'])
          exact ⟨fun _ => by omega, fun _ => hseti⟩
        · rw [hset i' hii, I.chain m i' hm]
          refine ⟨fun h => by omega, fun h => ?_⟩
          rcases Nat.lt_or_ge m c0 with h' | h'
          · exact h'
          · have : m = c0 := by omega
            subst this
            rw [hci'] at hm; exact absurd (Option.some.inj hm).symm hii
      refine ih _ (c0 + 1) a' w' ?_ hcnt'
      rcases h1 with ⟨hd, rfl⟩ | ⟨d, v, hd, rfl, hv⟩
      · refine ⟨I.size, I.defers, fun t ht => ?_, fun j oj d' hoj hlj hd' => ?_, hclosed, by simp [I.lsize], by omega, hchain, h2, hRt _ _ _ I.rel h3⟩
        · refine I.base t fun j oj hoj hlj => ?_
          by_cases hji : j = i
          · subst hji; rw [hun] at hlj; cases hlj
          · exact ht j oj hoj (by rw [hset j hji]; exact hlj)
        · by_cases hji : j = i
          · subst hji
            rw [ho'] at hoj; cases hoj
            rw [hd] at hd'; cases hd'
          · rw [hset j hji] at hlj
            exact hΦ j _ w w' h3 (I.phi j oj d' hoj hlj hd')
      · obtain ⟨f1, f2⟩ := hframe d v w' hd h3 hv
        exact ⟨by rw [putsL_size, I.size], by rw [putsL_defers, I.defers], f1, f2, hclosed, by simp [I.lsize], by omega, hchain, h2, hRt _ _ _ I.rel h3⟩
    · have hin' : ch.has i = false := by simpa using hin
      refine wp_one (by simpa using ho') (obN i o ho' hin' a w I.size I.rel hbase hdep) fun a' w' h => ?_
      obtain ⟨⟨d, v, hd, rfl, hv⟩, hg⟩ := h
      obtain ⟨f1, f2⟩ := hframe d v w' hd (hR0 _ _ hg) hv
      refine ih _ c _ w' ⟨by rw [putsL_size, I.size], by rw [putsL_defers, I.defers], f1, f2, hclosed, by simp [I.lsize], I.cle, ?_, ?_, hRt _ _ _ I.rel (hR0 _ _ hg)⟩ hcnt'
      · intro m i' hm
        have hii : i' ≠ i := by
          rintro rfl
          have : ch.has i' = true := by simpa [Chain.has] using List.mem_of_getElem? hm
          rw [hin'] at this; cases this
        rw [hset i' hii]
        exact I.chain m i' hm
      · have hsl : d ≠ ch.slot c := by
          intro he
          have h1 := List.all_eq_true.1 hc2 i (by simp [hlt])
          rw [hin', Bool.false_or] at h1
          simp only [ho'] at h1
          have h2 := List.all_eq_true.1 h1 c (by simp; have := I.cle; omega)
          simp only [hd, he, bne_self_eq_false, Bool.false_or, Bool.and_eq_true, Nat.blt_eq] at h2
          obtain ⟨e, he', h4, h5⟩ := depB_spec ho' h2.2
          have h6 := getD_of_false (hwait e he' h5)
          have hq : ch.ops.getD c 0 = ch.ops[c] := by simp [List.getD_eq_getElem?_getD, h2.1]
          rw [h4, hq] at h6
          have := (I.chain c ch.ops[c] (by simp [h2.1])).1 h6
          omega
        rw [get_put_ne hsl]
        exact hC c _ w w' hg I.chainC

end
end Go.Gx

/- Small laws for walks, the seventh part: comparisons that are kept, and what a region in any order asks. -/
namespace Go.Gx
open Go.RowKit
section
variable {P : Program} {Q : Exit → Act → World → Prop} {a : Act} {w w' : World} {l : List (Nat × Value)} {ops : Array Oper} {rest : List Oper}
variable {d ty xt yt t e : Nat} {p : String} {af : Array Edge} {x y z : Operand} {v u : Value} {k : IntKind} {m n r : Int}
theorem op_cmp {op : BinOp} {b : Bool} {k' : IntKind} (hx : (putsL a l).eval x = .int k m) (hy : (putsL a l).eval y = .int k' n) (hb : (binOp op xt (.int k m) (.int k' n)).run P w = .ok (.bool b) w) (h : wpList P ops Q rest (putsL a ((d, .bool b) :: l)) w) :
    wpList P ops Q (⟨some d, .binOp op xt x y yt, ty, p, af, none⟩ :: rest) (putsL a l) w := op_bin hx hy hb h
theorem b_lss {b : Bool} (h : decide (m < n) = b) : (binOp .lss xt (.int k m) (.int k n)).run P w = .ok (.bool b) w := by rw [binOp_lss, ← h]; rfl
theorem b_geq {b : Bool} (h : decide (n ≤ m) = b) : (binOp .geq xt (.int k m) (.int k n)).run P w = .ok (.bool b) w := by rw [binOp_geq, ← h]; rfl
theorem b_neq {b : Bool} (h : decide (m ≠ n) = b) : (binOp .neq xt (.int k m) (.int k n)).run P w = .ok (.bool b) w := by
  rw [binOp_neq, ← h]
  have : (m != n) = decide (m ≠ n) := by rw [Bool.eq_iff_iff]; simp
  rw [this]; rfl
theorem op_sneqb {s t : List UInt8} {b : Bool} (hx : (putsL a l).eval x = .string (bs s)) (hy : (putsL a l).eval y = .string (bs t)) (hb : decide (s ≠ t) = b) (h : wpList P ops Q rest (putsL a ((d, .bool b) :: l)) w) :
    wpList P ops Q (⟨some d, .binOp .neq xt x y yt, ty, p, af, none⟩ :: rest) (putsL a l) w := by
  subst hb
  refine op_sneq hx hy (fun hh => ?_) (fun hh => ?_)
  · rw [decide_eq_true hh] at h; exact h
  · rw [decide_eq_false (by simpa using hh)] at h; exact h
end
def noChain (N : Nat) : Chain := ⟨[], fun _ => N⟩
theorem grown_refl (w : World) (row : Option Nat) : w.grownBy w row := ⟨rfl, rfl, rfl, Nat.le_refl _, fun _ _ _ => rfl⟩
theorem noChain_ok {ol : List Oper} {N : Nat} (h : dstNB ol N = true) : (noChain N).okB ol = true := by
  simp only [Chain.okB, noChain, Chain.has, Bool.and_eq_true, List.all_eq_true, List.length_nil]
  refine ⟨⟨⟨by simp, fun i hi => ?_⟩, by simp⟩, by simp⟩
  have hi' : i < ol.length := by simpa using hi
  rw [List.getElem?_eq_getElem hi']
  have h1 := List.all_eq_true.1 h ol[i] (List.getElem_mem hi')
  cases hd : ol[i].dst with
  | none => simp [hd]
  | some d =>
    simp only [hd] at h1
    have h1 : d < N := by rw [Nat.blt_eq] at h1; exact h1
    have : d ≠ N := Nat.ne_of_lt h1
    simp [hd, this]
section
variable {P : Program} {ol : List Oper} {Q : Exit → Act → World → Prop} {Φ : Nat → Value → World → Prop} {a0 : Act} {N : Nat} {w : World} {l : List (Nat × Value)} {id : Nat}
end
def StL (row : Option Nat) : List (Value → World → Prop) → Prop
  | [] => True
  | φ :: L => (∀ u w1 w2, w1.grownBy w2 row → φ u w1 → φ u w2) ∧ StL row L
def phiL (L : List (Value → World → Prop)) : Nat → Value → World → Prop := fun j v w => (L.getD j (fun _ _ => True)) v w
theorem StL.get {row : Option Nat} : ∀ {L : List (Value → World → Prop)}, StL row L → ∀ j u w1 w2, w1.grownBy w2 row → phiL L j u w1 → phiL L j u w2
  | [], _, j, _, _, _, _, _ => by simp [phiL]
  | φ :: L, h, 0, u, w1, w2, E, hp => h.1 u w1 w2 E hp
  | φ :: L, h, j + 1, u, w1, w2, E, hp => StL.get h.2 j u w1 w2 E hp
theorem StL.nil (row : Option Nat) : StL row [] := trivial
theorem StL.cons {row : Option Nat} {φ : Value → World → Prop} {L : List (Value → World → Prop)} (h : ∀ u w1 w2, w1.grownBy w2 row → φ u w1 → φ u w2) (h' : StL row L) : StL row (φ :: L) := ⟨h, h'⟩
theorem StL.eq {row : Option Nat} {v : Value} {L : List (Value → World → Prop)} (h' : StL row L) : StL row ((fun u _ => u = v) :: L) := ⟨fun _ _ _ _ h => h, h'⟩
def ObL (P : Program) (ol : List Oper) (Φ : Nat → Value → World → Prop) (a0 : Act) (N : Nat) (w0 : World) (R : World → World → Prop) (s : Nat) : Nat → List Oper → Prop
  | _, [] => True
  | i, o :: r => (i ≠ s → ObN P ol Φ a0 N w0 R i o) ∧ ObL P ol Φ a0 N w0 R s (i + 1) r
section
variable {P : Program} {ol : List Oper} {Φ : Nat → Value → World → Prop} {a0 : Act} {N : Nat} {w0 : World} {R : World → World → Prop} {s : Nat}
theorem ObL.nil {i : Nat} : ObL P ol Φ a0 N w0 R s i [] := trivial
theorem ObL.cons {i : Nat} {o : Oper} {r : List Oper} (h : ObN P ol Φ a0 N w0 R i o) (h' : ObL P ol Φ a0 N w0 R s (i + 1) r) : ObL P ol Φ a0 N w0 R s i (o :: r) := ⟨fun _ => h, h'⟩
theorem ObL.pass {o : Oper} {r : List Oper} (h' : ObL P ol Φ a0 N w0 R s (s + 1) r) : ObL P ol Φ a0 N w0 R s s (o :: r) := ⟨fun h => absurd rfl h, h'⟩
theorem ObL.getx : ∀ {l : List Oper} {i : Nat}, ObL P ol Φ a0 N w0 R s i l → ∀ j o, l[j]? = some o → i + j ≠ s → ObN P ol Φ a0 N w0 R (i + j) o
  | [], _, _, j, o, h, _ => by simp at h
  | o' :: r, i, h, 0, o, hj, hs => by simp at hj; subst hj; exact h.1 hs
  | o' :: r, i, h, j + 1, o, hj, hs => by
    have := ObL.getx h.2 j o (by simpa using hj) (by omega)
    rwa [show i + 1 + j = i + (j + 1) by omega] at this
theorem ObL.get {l : List Oper} (h : ObL P ol Φ a0 N w0 R s 0 l) (hs : Nat.ble l.length s = true) : ∀ j o, l[j]? = some o → ObN P ol Φ a0 N w0 R j o := fun j o hj => by
  have hlt : j < l.length := (List.getElem?_eq_some_iff.1 hj).1
  have := ObL.getx h j o hj (by have := Nat.le_of_ble_eq_true hs; omega)
  rwa [Nat.zero_add] at this
end
theorem obN_end {Φ : Nat → Value → World → Prop} {i d : Nat} {v : Value} {o : Oper} {P : Program} {ops : Array Oper} {a : Act} {w w' : World} (hd : o.dst = some d) (hv : Φ i v w') (hg : w.grownBy w' none) :
    wpList P ops (fun e a' w' => e = .normal ∧ (∃ d v, o.dst = some d ∧ a' = putsL a [(d, v)] ∧ Φ i v w') ∧ w.grownBy w' none) [] (putsL a [(d, v)]) w' := ⟨rfl, ⟨d, v, hd, rfl, hv⟩, hg⟩
end Go.Gx

/- Small laws for walks, the eighth part: order of texts, arrays in variables, lists of numbers. -/
namespace Go.Gx
open Go.RowKit

/-! ### how texts stand -/
def cmpT : List UInt8 → List UInt8 → Int
  | [], [] => 0
  | [], _ :: _ => -1
  | _ :: _, [] => 1
  | a :: x, b :: y => if a.toNat < b.toNat then -1 else if b.toNat < a.toNat then 1 else cmpT x y
theorem cmpT_refl : ∀ (a : List UInt8), cmpT a a = 0
  | [] => rfl
  | a :: x => by simp [cmpT, cmpT_refl x]
theorem cmpT_eq : ∀ {a b : List UInt8}, cmpT a b = 0 → a = b
  | [], [], _ => rfl
  | [], _ :: _, h => by simp [cmpT] at h
  | _ :: _, [], h => by simp [cmpT] at h
  | a :: x, b :: y, h => by
    simp only [cmpT] at h
    split at h
    · simp at h
    · split at h
      · simp at h
      · have h3 : a = b := UInt8.toNat_inj.1 (by omega)
        rw [h3, cmpT_eq h]
section
variable {P : Program} {Q : Exit → Act → World → Prop} {a : Act} {w w' : World} {l : List (Nat × Value)} {ops : Array Oper} {rest : List Oper}
variable {d ty xt yt t e : Nat} {p : String} {af : Array Edge} {x y z : Operand} {v u : Value} {k : IntKind} {m n r : Int}
def arrT (P : Program) (t : TypeId) : Option (Nat × Nat) := match P.underlying t with | some (.array n e) => (P.info? e).map fun i => (n, i.size) | _ => none
theorem op_index_arr {b off c sz : Nat} {i : Int} {j : Nat} (hT : arrT P xt = some (c, sz)) (hx : (putsL a l).eval x = ptr b off) (hy : (putsL a l).eval y = .int k i) (hj : i = (j : Int)) (h1 : j < c) (h : wpList P ops Q rest (putsL a ((d, ptr b (off + j * sz)) :: l)) w) :
    wpList P ops Q (⟨some d, .indexAddr xt x y, ty, p, af, none⟩ :: rest) (putsL a l) w := by
  unfold arrT at hT
  cases hu : P.underlying xt with
  | none => simp [hu] at hT
  | some dd =>
    cases dd with
    | array n e =>
      simp only [hu] at hT
      obtain ⟨inf, hi, hq⟩ := Option.map_eq_some_iff.1 hT
      simp at hq
      obtain ⟨rfl, rfl⟩ := hq
      subst hj
      exact op_gen (v := ptr b (off + j * inf.size)) rfl (by
        have hand : (0 ≤ (j : Int) ∧ (j : Int) < (n : Int)) := by omega
        simp [execOp, hx, hy, Instr.indexAt, asIntOf, run_underlying hu, sizeOf, typeInfo, hi, ptr, Addr.add_lit, Instr.sureAddr, h1]) h
    | _ => simp [hu] at hT
end
theorem el_i64 {l : List Int} {e : Int} {i : Nat} (he : e = (i : Int)) (h : i < l.length) : (l.map (Value.int .i64))[e.toNat * 1 + 0]? = some (Value.int .i64 (l.getD i 0)) := by
  subst he
  simp [h, List.getD_eq_getElem?_getD]
theorem at_sub {cs : List Value} {k n j : Nat} {u : Value} (h : ((cs.drop k).take n)[j]? = some u) : cs[k + j]? = some u := by
  rw [List.getElem?_take] at h
  split at h
  · simpa using h
  · cases h
end Go.Gx

/- Small laws for walks, the ninth part: rounds told one by one, parts that are equal, small builtins. -/
namespace Go.Gx
open Go.RowKit
section
variable {P : Program} {Q : Exit → Act → World → Prop} {a : Act} {w w' : World} {l : List (Nat × Value)} {ops : Array Oper} {rest : List Oper}
variable {d ty xt yt t e : Nat} {p : String} {af : Array Edge} {x y z : Operand} {v u : Value} {k : IntKind} {m n r : Int}
end
end Go.Gx

/- Small laws for walks, the tenth part: rows of bytes that are written cell by cell. -/
namespace Go.Gx
open Go.RowKit
section
variable {P : Program} {Q : Exit → Act → World → Prop} {a : Act} {w w' : World} {l : List (Nat × Value)} {ops : Array Oper} {rest : List Oper}
variable {d ty xt yt t e : Nat} {p : String} {af : Array Edge} {x y z : Operand} {v u zv : Value} {k : IntKind} {m r : Int} {b n c off sz by_ L B base : Nat} {cs ws : List Value}
theorem op_cap (ht : P.underlying t = some (.slice e)) (hx : (putsL a l).eval x = .slice none 0 0 ∧ c = 0 ∨ ∃ g n, (putsL a l).eval x = .slice (some g) n c) (h : wpList P ops Q rest (putsL a ((d, .int .i64 (c : Int)) :: l)) w) :
    wpList P ops Q (⟨some d, .call ⟨.builtin .cap, #[x], #[t]⟩, ty, p, af, none⟩ :: rest) (putsL a l) w := by
  rcases hx with ⟨hx, rfl⟩ | ⟨g, n, hx⟩
  · exact op_gen rfl (by simp [execOp, hx, resolve, invoke, builtin, Builtin.cap_, run_underlying ht, goInt]) h
  · exact op_gen rfl (by simp [execOp, hx, resolve, invoke, builtin, Builtin.cap_, run_underlying ht, goInt]) h
/-! lists of one's own, written into -/
def AtV (v : Value) (q b o : Nat) : Prop := ∃ off n c, v = .slice (some ⟨b, off, none⟩) n c ∧ o = off + q
theorem AtV.fld {q o : Nat} (h : AtV v q b o) (f : Nat) : AtV v (q + f) b (o + f) := by
  obtain ⟨off, n, c, rfl, rfl⟩ := h
  exact ⟨off, n, c, rfl, by omega⟩
theorem op_index_own {i : Nat} (T : SlT P xt e zv sz by_) (hx : (putsL a l).eval x = v) (O : Own w base e sz v n cs) (hy : (putsL a l).eval y = .int k r) (hr : r = (i : Int)) (h1 : i < n)
    (h : ∀ b o, base ≤ b → AtV v (i * sz) b o → wpList P ops Q rest (putsL a ((d, ptr b o) :: l)) w) : wpList P ops Q (⟨some d, .indexAddr xt x y, ty, p, af, none⟩ :: rest) (putsL a l) w := by
  obtain ⟨inf, hi, hz0, hz1, hz2⟩ := info_parts T.info
  subst hr
  obtain ⟨hl, ⟨rfl, rfl⟩ | ⟨g, off, cap, cur, fr, rfl, hb, hg, hf, hnc, hcm, hfit, htk⟩⟩ := O
  · omega
  · refine op_gen (v := ptr g (off + i * sz)) rfl ?_ (h g (off + i * sz) hb ⟨off, n, cap, rfl, rfl⟩)
    have hand : (0 ≤ (i : Int) ∧ (i : Int) < (n : Int)) := by omega
    simp [execOp, hx, hy, Instr.indexAt, asIntOf, run_underlying T.und, sizeOf, typeInfo, hi, ptr, Addr.add_lit, hz1, h1]
theorem op_store_own {s q o : Nat} {vs : List Value} (ht : (P.info? t).map (·.size) = some s) (hx : (putsL a l).eval x = ptr b o) (hy : (putsL a l).eval y = u) (hv : u.cells.toList = vs) (hs : vs.length = s) (h1 : vs.all Value.oneCell' = true)
    (O : Own w base e sz v n cs) (hA : AtV v q b o) (hq : q + vs.length ≤ cs.length)
    (h : ∀ w', Own w' base e sz v n (cs.take q ++ vs ++ cs.drop (q + vs.length)) → w.grownBy w' v.ownBlock → wpList P ops Q rest (putsL a l) w') : wpList P ops Q (⟨none, .store t x y, ty, p, af, none⟩ :: rest) (putsL a l) w := by
  obtain ⟨off', n', c', hv', rfl⟩ := hA
  obtain ⟨hl, ⟨rfl, rfl⟩ | ⟨g, off, cap, cur, fr, rfl, hb, hg, hf, hnc, hcm, hfit, htk⟩⟩ := O
  · cases hv'
  · injection hv' with e1 e2 e3; injection e1 with e1; injection e1 with e1 e4; subst e1; subst e2; subst e3; subst e4
    have hle : n * sz ≤ cap * sz := Nat.mul_le_mul_right _ hnc
    have hsz : off + q + vs.length ≤ cur.size := by omega
    have hst := run_storeCells_cells (P := P) g (off + q) vs 0 w (fun j hj => by simp [World.cell?, hg]; omega) (fun j hj => by
      have := hf (off + q + 0 + j) (by omega)
      obtain ⟨lo, hi⟩ := fr
      simp only [World.frozen?, hg]
      simpa [Bool.and_eq_false_iff] using this) (fun v hv => List.all_eq_true.1 h1 v hv)
    rw [Nat.add_zero] at hst
    refine op_skip rfl rfl (w' := w.setCells g (off + q) vs) ?_ (h _ ?_ (grown_setCells w g _ vs))
    · obtain ⟨i, hi, hsz⟩ := Option.map_eq_some_iff.1 ht
      have hz : u.cells.size = i.size := by rw [hsz, ← hs, ← hv]; simp
      show (do Instr.storeAt t ((putsL a l).eval x) ((putsL a l).eval y); pure Next.skip : Sem Next).run P w = _
      rw [hx, hy]
      simp only [Instr.storeAt, Instr.sureAddr, ptr, storeVar, sizeOf, typeInfo, program, Sem.run_bind, Sem.run_pure, Result.andThen_ok]
      rw [show (Sem.program Sem.pure).run P w = .ok P w from rfl]
      simp only [Result.andThen_ok, hi, Sem.run_pure, hz, ne_eq, not_true_eq_false, if_false, hv, hst]
    · refine ⟨by simp; omega, .inr ⟨g, off, cap, setsAt cur (off + q) vs, fr, rfl, hb, heap_setCells g e fr vs (off + q) w cur hg, by rw [size_setsAt]; exact hf, hnc, hcm, by rw [size_setsAt]; exact hfit, ?_⟩⟩
      apply List.ext_getElem?
      intro j
      have hcs : ∀ j, cs[j]? = if j < n * sz then cur[off + j]? else none := by
        intro j
        rw [← htk, List.getElem?_take]
        split
        · rw [List.getElem?_drop]; simp
        · rfl
      rw [List.getElem?_take, List.getElem?_drop]
      simp only [Array.getElem?_toList]
      rw [get_setsAt vs (off + q) cur (off + j) hsz]
      simp only [List.getElem?_append, List.length_append, List.length_take, List.getElem?_take, List.getElem?_drop, hcs]
      by_cases h1 : j < n * sz
      · by_cases h2 : j < q
        · have a1 : ¬ (off + q ≤ off + j ∧ off + j < off + q + vs.length) := by omega
          have a2 : j < min q cs.length + vs.length := by omega
          have a3 : j < min q cs.length := by omega
          rw [if_pos h1, if_neg a1, if_pos a2, if_pos a3, if_pos h2, if_pos h1]
        · by_cases h3 : j < q + vs.length
          · have a1 : off + q ≤ off + j ∧ off + j < off + q + vs.length := by omega
            have a2 : j < min q cs.length + vs.length := by omega
            have a3 : ¬ j < min q cs.length := by omega
            have a4 : off + j - (off + q) = j - min q cs.length := by omega
            rw [if_pos h1, if_pos a1, if_pos a2, if_neg a3, a4]
          · have a1 : ¬ (off + q ≤ off + j ∧ off + j < off + q + vs.length) := by omega
            have a2 : ¬ j < min q cs.length + vs.length := by omega
            have a4 : q + vs.length + (j - (min q cs.length + vs.length)) = j := by omega
            rw [if_pos h1, if_neg a1, if_neg a2, a4, if_pos h1]
      · have a2 : ¬ j < min q cs.length + vs.length := by omega
        have a4 : q + vs.length + (j - (min q cs.length + vs.length)) = j := by omega
        rw [if_neg h1, if_neg a2, a4, if_neg h1]
theorem Own.capOf (O : Own w base e sz v n cs) : ∃ c, n ≤ c ∧ c ≤ maxLen ∧ (v = .slice none 0 0 ∧ c = 0 ∨ ∃ g n, v = .slice (some g) n c) := by
  obtain ⟨hl, ⟨rfl, rfl⟩ | ⟨g, off, cap, cur, fr, rfl, hb, hg, hf, hnc, hcm, hfit, htk⟩⟩ := O
  · exact ⟨0, Nat.le_refl _, by unfold maxLen; omega, .inl ⟨rfl, rfl⟩⟩
  · exact ⟨cap, hnc, hcm, .inr ⟨_, _, rfl⟩⟩
theorem grow_step0 {w0 : World} {row : Option Nat} (h : w0.grownBy w row) (E : w.grownBy w' none) : w0.grownBy w' row := grown_trans h (grown_any E row)
theorem grow_stepO {w0 : World} {row : Option Nat} (h : w0.grownBy w row) (O : Own w base e sz v n cs) (E : w.grownBy w' v.ownBlock) (hb : w0.heap.size ≤ base) : w0.grownBy w' row :=
  ⟨E.os.trans h.os, E.tape.trans h.tape, E.output.trans h.output, Nat.le_trans h.size E.size, fun k hk hr => (E.block k (Nat.lt_of_lt_of_le hk h.size) (fun hh => by have := (O.lt k hh.symm).1; omega)).trans (h.block k hk hr)⟩
theorem grow_stepX {w0 : World} {row : Option Nat} (h : w0.grownBy w row) (E : w.grownBy w' v.ownBlock) (he : v.ownBlock = row) : w0.grownBy w' row := by
  subst he; exact grown_trans h E
end
end Go.Gx

/- Small laws for walks, the eleventh part: numbers in bytes. -/
namespace Go.Gx
open Go.RowKit
theorem shr_nat {m j b : Nat} {s : Int} (hs : s = (j : Int)) (hj : j ≤ b) : (m : Int).fdiv (2 ^ (min s.toNat b)) = ((m / 2 ^ j : Nat) : Int) := by
  subst hs
  rw [Int.toNat_natCast, Nat.min_eq_left hj, Int.fdiv_eq_ediv_of_nonneg _ (Int.pow_nonneg (by decide))]
  simp [Int.natCast_ediv]
theorem conv_u8 {m : Nat} : IntKind.u8.wrap (m : Int) = ((UInt8.ofNat m).toNat : Int) := by
  simp only [IntKind.wrap, IntKind.bits, IntKind.signed, UInt8.toNat_ofNat']
  simp
end Go.Gx

/- Small laws for walks, the twelfth part: a region whose order is open, with a chain of operations that write one's own list; what is told of a slot may speak of the list as it stands. -/
namespace Go.Gx
open Go.RowKit
def chv (ch : Chain) (v0 : Value) (c : Nat) (a : Act) : Value := if c = 0 then v0 else a.tmps.getD (ch.slot c) undef
def StepC (v v' : Value) (w1 w2 : World) : Prop := w1.grownBy w2 v.ownBlock ∧ (v'.ownBlock = v.ownBlock ∨ ∀ k, v'.ownBlock = some k → w1.heap.size ≤ k)
section
variable {P : Program} {ol : List Oper} {Q : Exit → Act → World → Prop} {Φ : Nat → Nat → Value → Value → World → Prop} {C : Nat → Value → World → Prop} {ch : Chain} {v0 : Value} {a0 : Act} {N : Nat}
structure RInc (ol : List Oper) (Φ : Nat → Nat → Value → Value → World → Prop) (C : Nat → Value → World → Prop) (ch : Chain) (v0 : Value) (a0 : Act) (N : Nat) (w0 : World) (listed : Array Bool) (c : Nat) (a : Act) (w : World) : Prop where
  size : a.tmps.size = N
  defers : a.defers = a0.defers
  base : ∀ t, (∀ j o, ol[j]? = some o → listed.getD j true = true → o.dst ≠ some t) → a.tmps.getD t undef = a0.tmps.getD t undef
  phi : ∀ j o d, ol[j]? = some o → listed.getD j true = true → o.dst = some d → Φ j c (chv ch v0 c a) (a.tmps.getD d undef) w
  closed : ∀ j o, ol[j]? = some o → listed.getD j true = true → ∀ e ∈ o.after, Region.binds .any e = true → listed.getD e.on false = true
  lsize : listed.size = ol.length
  cle : c ≤ ch.ops.length
  chain : ∀ m i, ch.ops[m]? = some i → (listed.getD i true = true ↔ m < c)
  chainC : C c (chv ch v0 c a) w
  rel : w0.grownBy w v0.ownBlock
  own : (chv ch v0 c a).ownBlock = v0.ownBlock ∨ ∀ k, (chv ch v0 c a).ownBlock = some k → w0.heap.size ≤ k
def ObNc (P : Program) (ol : List Oper) (Φ : Nat → Nat → Value → Value → World → Prop) (ch : Chain) (v0 : Value) (a0 : Act) (N : Nat) (w0 : World) (i : Nat) (o : Oper) : Prop :=
  ∀ (a : Act) (w : World) (c : Nat) (v : Value), a.tmps.size = N → c ≤ ch.ops.length → w0.grownBy w v0.ownBlock → (∀ k, v.ownBlock = some k → k < w.heap.size) → (v.ownBlock = v0.ownBlock ∨ ∀ k, v.ownBlock = some k → w0.heap.size ≤ k) → (∀ t, safeB ol i t = true → a.tmps.getD t undef = a0.tmps.getD t undef) → (∀ j oj d, depB ol i j = true → ol[j]? = some oj → oj.dst = some d → Φ j c v (a.tmps.getD d undef) w) →
    wpList P ol.toArray (fun e a' w' => e = .normal ∧ (∃ d u, o.dst = some d ∧ a' = putsL a [(d, u)] ∧ Φ i c v u w') ∧ w.grownBy w' none) [o] (putsL a []) w
def ObCc (P : Program) (ol : List Oper) (Φ : Nat → Nat → Value → Value → World → Prop) (C : Nat → Value → World → Prop) (ch : Chain) (v0 : Value) (a0 : Act) (N : Nat) (w0 : World) (c i : Nat) (o : Oper) : Prop :=
  ∀ (a : Act) (w : World) (v : Value), a.tmps.size = N → w0.grownBy w v0.ownBlock → (c = 0 → v = v0) → (∀ t, safeB ol i t = true → a.tmps.getD t undef = a0.tmps.getD t undef) → (∀ j oj d, depB ol i j = true → ol[j]? = some oj → oj.dst = some d → Φ j c v (a.tmps.getD d undef) w) → C c v w →
    wpList P ol.toArray (fun e a' w' => e = .normal ∧ ∃ d u, o.dst = some d ∧ ch.slot (c + 1) = d ∧ a' = putsL a [(d, u)] ∧ Φ i (c + 1) u u w' ∧ C (c + 1) u w' ∧ StepC v u w w') [o] (putsL a []) w
end
/-! told as lists -/
abbrev PhiC := Nat → Value → Value → World → Prop
def StK (n : Nat) : List PhiC → Prop
  | [] => True
  | φ :: L => ((∀ c v u w1 w2, w1.grownBy w2 none → φ c v u w1 → φ c v u w2) ∧ (∀ c v v' u w1 w2, c < n → StepC v v' w1 w2 → φ c v u w1 → φ (c + 1) v' u w2)) ∧ StK n L
theorem StK.nil {n : Nat} : StK n [] := trivial
theorem StK.cons {n : Nat} {φ : PhiC} {L : List PhiC} (h0 : ∀ c v u w1 w2, w1.grownBy w2 none → φ c v u w1 → φ c v u w2) (h1 : ∀ c v v' u w1 w2, c < n → StepC v v' w1 w2 → φ c v u w1 → φ (c + 1) v' u w2) (h' : StK n L) : StK n (φ :: L) := ⟨⟨h0, h1⟩, h'⟩
theorem StK.eq {n : Nat} {x : Value} {L : List PhiC} (h' : StK n L) : StK n ((fun _ _ u _ => u = x) :: L) := ⟨⟨fun _ _ _ _ _ _ h => h, fun _ _ _ _ _ _ _ _ h => h⟩, h'⟩
def chP (m : Nat) : PhiC := fun c v u _ => m < c ∧ (c = m + 1 → u = v)
theorem StK.ch {n m : Nat} {L : List PhiC} (h' : StK n L) : StK n (chP m :: L) := ⟨⟨fun _ _ _ _ _ _ h => h, fun c v v' u w1 w2 _ _ h => ⟨by have := h.1; omega, fun hc => by have := h.1; omega⟩⟩, h'⟩
def StL2 : List (Value → World → Prop) → Prop
  | [] => True
  | φ :: L => ((∀ v w1 w2, w1.grownBy w2 none → φ v w1 → φ v w2) ∧ (∀ v w, φ v w → ∀ k, v.ownBlock = some k → k < w.heap.size)) ∧ StL2 L
theorem StL2.nil : StL2 [] := trivial
theorem StL2.own {b e sz n : Nat} {cs : List Value} {L : List (Value → World → Prop)} (h' : StL2 L) : StL2 ((fun v w => Own w b e sz v n cs) :: L) :=
  ⟨⟨fun _ _ _ E h => h.keep0 E, fun _ _ h k hk => (h.lt k hk).2⟩, h'⟩
section
variable {P : Program} {ol : List Oper} {Φ : Nat → Nat → Value → Value → World → Prop} {C : Nat → Value → World → Prop} {ch : Chain} {v0 : Value} {a0 : Act} {N : Nat} {w0 : World}
def ObLn (P : Program) (ol : List Oper) (Φ : Nat → Nat → Value → Value → World → Prop) (ch : Chain) (v0 : Value) (a0 : Act) (N : Nat) (w0 : World) : Nat → List Oper → Prop
  | _, [] => True
  | i, o :: r => (ch.has i = false → ObNc P ol Φ ch v0 a0 N w0 i o) ∧ ObLn P ol Φ ch v0 a0 N w0 (i + 1) r
theorem ObLn.nil {i : Nat} : ObLn P ol Φ ch v0 a0 N w0 i [] := trivial
theorem ObLn.cons {i : Nat} {o : Oper} {r : List Oper} (h : ObNc P ol Φ ch v0 a0 N w0 i o) (h' : ObLn P ol Φ ch v0 a0 N w0 (i + 1) r) : ObLn P ol Φ ch v0 a0 N w0 i (o :: r) := ⟨fun _ => h, h'⟩
theorem ObLn.pass {i : Nat} {o : Oper} {r : List Oper} (hh : ch.has i = true) (h' : ObLn P ol Φ ch v0 a0 N w0 (i + 1) r) : ObLn P ol Φ ch v0 a0 N w0 i (o :: r) := ⟨fun h => absurd (hh.symm.trans h) (by decide), h'⟩
theorem ObLn.getx : ∀ {l : List Oper} {i : Nat}, ObLn P ol Φ ch v0 a0 N w0 i l → ∀ j o, l[j]? = some o → ch.has (i + j) = false → ObNc P ol Φ ch v0 a0 N w0 (i + j) o
  | [], _, _, j, o, h, _ => by simp at h
  | o' :: r, i, h, 0, o, hj, hs => by simp at hj; subst hj; exact h.1 hs
  | o' :: r, i, h, j + 1, o, hj, hs => by
    have := ObLn.getx h.2 j o (by simpa using hj) (by rwa [show i + 1 + j = i + (j + 1) by omega])
    rwa [show i + 1 + j = i + (j + 1) by omega] at this
theorem ObLn.get {l : List Oper} (h : ObLn P ol Φ ch v0 a0 N w0 0 l) : ∀ j o, l[j]? = some o → ch.has j = false → ObNc P ol Φ ch v0 a0 N w0 j o := fun j o hj hs => by
  have := ObLn.getx h j o hj (by rwa [Nat.zero_add])
  rwa [Nat.zero_add] at this
def ObLc (P : Program) (ol : List Oper) (Φ : Nat → Nat → Value → Value → World → Prop) (C : Nat → Value → World → Prop) (ch : Chain) (v0 : Value) (a0 : Act) (N : Nat) (w0 : World) : Nat → List Nat → Prop
  | _, [] => True
  | c, i :: r => (∀ o, ol[i]? = some o → ObCc P ol Φ C ch v0 a0 N w0 c i o) ∧ ObLc P ol Φ C ch v0 a0 N w0 (c + 1) r
theorem ObLc.nil {c : Nat} : ObLc P ol Φ C ch v0 a0 N w0 c [] := trivial
theorem ObLc.cons {c i : Nat} {r : List Nat} (h : ∀ o, ol[i]? = some o → ObCc P ol Φ C ch v0 a0 N w0 c i o) (h' : ObLc P ol Φ C ch v0 a0 N w0 (c + 1) r) : ObLc P ol Φ C ch v0 a0 N w0 c (i :: r) := ⟨h, h'⟩
theorem ObLc.getx : ∀ {l : List Nat} {c : Nat}, ObLc P ol Φ C ch v0 a0 N w0 c l → ∀ m i o, l[m]? = some i → ol[i]? = some o → ObCc P ol Φ C ch v0 a0 N w0 (c + m) i o
  | [], _, _, j, i, o, h, _ => by simp at h
  | o' :: r, c, h, 0, i, o, hj, ho => by simp at hj; subst hj; exact h.1 o ho
  | o' :: r, c, h, j + 1, i, o, hj, ho => by
    have := ObLc.getx h.2 j i o (by simpa using hj) ho
    rwa [show c + 1 + j = c + (j + 1) by omega] at this
theorem ObLc.get {l : List Nat} (h : ObLc P ol Φ C ch v0 a0 N w0 0 l) : ∀ m i o, l[m]? = some i → ol[i]? = some o → ObCc P ol Φ C ch v0 a0 N w0 m i o := fun m i o hj ho => by
  have := ObLc.getx h m i o hj ho
  rwa [Nat.zero_add] at this
theorem ne_step {v v' : Value} {b : Nat} {w1 w2 : World} (E : StepC v v' w1 w2) (hb : b < w1.heap.size) (h : v.ownBlock ≠ some b) : v'.ownBlock ≠ some b := by
  rcases E.2 with h' | h'
  · rw [h']; exact h
  · intro hh; have := h' b hh; omega
end
theorem Own.keepX {w w' : World} {base e sz n b t : Nat} {v : Value} {cs ws : List Value} (O : Own w base e sz v n cs) (h : Bx w b t ws) (E : w.grownBy w' (some b)) (hne : t ≠ e) : Own w' base e sz v n cs := by
  refine O.keep E (.inr ?_)
  rcases O.2 with ⟨rfl, _⟩ | ⟨g, off, cap, cur, fr, rfl, hb, hg, _⟩
  · simp [Value.ownBlock]
  · simp only [Value.ownBlock, ne_eq, Option.some.injEq]
    rintro rfl
    have h' : w.heap[g]? = some (.cells ws.toArray t (0, 0)) := h
    rw [h'] at hg
    simp at hg
    exact hne hg.2.1
end Go.Gx

/- Small laws, the thirteenth part: what arguments are, kind by kind: a value that is read as data has the shape its type says. -/
namespace Go.Gx
open Go.RowKit Go.WideShapes
section
variable {H : Type} {enc : TypeId × Value → H} {P : Program} {w : World} {base : Nat} {spare : Nat → Bool} {held : Bool} {t e : TypeId}
def Dec {α : Type} (enc : TypeId × Value → H) (P : Program) (w : World) (base : Nat) (spare : Nat → Bool) (held : Bool) (t : TypeId) (f : α → List Value) (R : α → Prop) : Prop :=
  ∀ fuel cs x, DataW.trod enc P w base spare held fuel t cs = some x → ∃ u, cs = f u ∧ R u
theorem Dec.int {k : IntKind} (ht : P.underlying t = some (.int k)) : Dec enc P w base spare held t (fun n => [.int k n]) (fun n => (Lit.int k n).wf = true) := by
  intro fuel cs x h
  obtain ⟨n, rfl, _, hw⟩ := DataW.trod_int ht h
  exact ⟨n, rfl, hw⟩
theorem Dec.bool (ht : P.underlying t = some .bool) : Dec enc P w base spare held t (fun b => [.bool b]) (fun _ => True) := by
  intro fuel cs x h
  obtain ⟨b, rfl, _⟩ := DataW.trod_bool ht h
  exact ⟨b, rfl, trivial⟩
theorem Dec.map {α β : Type} {f : α → List Value} {R : α → Prop} {g : β → List Value} {S : β → Prop} (D : Dec enc P w base spare held t f R) (h : ∀ u, R u → ∃ v, f u = g v ∧ S v) : Dec enc P w base spare held t g S := by
  intro fuel cs x hx
  obtain ⟨u, rfl, hu⟩ := D fuel cs x hx
  obtain ⟨v, hv, hs⟩ := h u hu
  exact ⟨v, hv, hs⟩
theorem Dec.u8 (ht : P.underlying t = some (.int .u8)) : Dec enc P w base spare held t (fun c => [u8v c]) (fun _ => True) :=
  (Dec.int ht).map fun n hn => by
    simp only [Lit.wf, Bool.and_eq_true, decide_eq_true_eq] at hn
    have h1 : 0 ≤ n ∧ n ≤ 255 := hn
    refine ⟨UInt8.ofNat n.toNat, ?_, trivial⟩
    have : (UInt8.ofNat n.toNat).toNat = n.toNat := by rw [UInt8.toNat_ofNat']; omega
    simp [u8v, this]; omega
theorem flat_get {α : Type} {f : α → List Value} {sz : Nat} (hp : 0 < sz) : ∀ (us : List α), (∀ u ∈ us, (f u).length = sz) → ∀ j, (us.flatMap f)[j]? = (us[j / sz]?).bind fun u => (f u)[j % sz]?
  | [], _, j => by simp
  | u :: us, h, j => by
    rw [List.flatMap_cons]
    have hu := h u (by simp)
    by_cases hj : j < sz
    · rw [List.getElem?_append_left (by omega), Nat.div_eq_of_lt hj, Nat.mod_eq_of_lt hj]; simp
    · rw [List.getElem?_append_right (by omega), hu, flat_get hp us (fun v hv => h v (by simp [hv]))]
      have e1 : j / sz = (j - sz) / sz + 1 := by rw [Nat.div_eq_sub_div hp (by omega)]
      have e2 : j % sz = (j - sz) % sz := by rw [Nat.mod_eq_sub_mod (by omega)]
      rw [e1, e2]; simp
theorem flat_len {α : Type} {f : α → List Value} {sz : Nat} : ∀ (us : List α), (∀ u ∈ us, (f u).length = sz) → (us.flatMap f).length = us.length * sz
  | [], _ => by simp
  | u :: us, h => by rw [List.flatMap_cons, List.length_append, h u (by simp), flat_len us (fun v hv => h v (by simp [hv])), List.length_cons, Nat.add_mul]; omega
theorem Dec.slice {α : Type} {f : α → List Value} {R : α → Prop} (ht : P.underlying t = some (.slice e)) (hp : 0 < P.cellsOf e) (D : Dec enc P w base spare held e f R) (hlen : ∀ u, R u → (f u).length = P.cellsOf e) :
    Dec enc P w base spare held t (fun p : Value × List α => [p.1]) (fun p => RdC w 0 w.heap.size (P.cellsOf e) p.1 p.2.length (p.2.flatMap f) ∧ ∀ u ∈ p.2, R u) := by
  intro fuel cs x hx
  rcases DataW.trod_slice ht hx with ⟨rfl, _⟩ | ⟨a, len, cap, elems, rest, n, _, rfl, _, hb, hl, hm, hel, hat, _, _⟩
  · exact ⟨(.slice none 0 0, []), rfl, RdC.nil _ _ _ _, by simp⟩
  · have key : ∀ k, k ≤ len → ∃ us : List α, us.length = k ∧ (∀ u ∈ us, R u) ∧ ∀ i u, us[i]? = some u → w.cells? base (a.add (i * P.cellsOf e)) (P.cellsOf e) = some (f u) := by
      intro k
      induction k with
      | zero => intro _; exact ⟨[], rfl, by simp, by simp⟩
      | succ k ih =>
        intro hk
        obtain ⟨us, h1, h2, h3⟩ := ih (by omega)
        have h4 := hat k (by omega)
        rw [List.getElem?_eq_getElem (by omega)] at h4
        obtain ⟨cs, hcs, ht'⟩ := Option.bind_eq_some_iff.1 h4
        obtain ⟨u, rfl, hu⟩ := D _ _ _ ht'
        refine ⟨us ++ [u], by simp [h1], ?_, fun i v hv => ?_⟩
        · intro v hv
          rcases List.mem_append.1 hv with hv | hv
          · exact h2 v hv
          · simp at hv; subst hv; exact hu
        · rw [List.getElem?_append] at hv
          split at hv
          · exact h3 i v hv
          · have : i = k := by
              have := (List.getElem?_eq_some_iff.1 hv).1
              simp at this; omega
            subst this
            simp [h1] at hv; subst hv; exact hcs
    obtain ⟨us, h1, h2, h3⟩ := key len (Nat.le_refl _)
    refine ⟨(.slice (some a) len cap, us), rfl, ⟨flat_len us fun u hu => hlen u (h2 u hu), some a, cap, by rw [h1], (show us.length ≤ cap by omega), hm, ?_⟩, h2⟩
    by_cases hz : us = []
    · subst hz; exact .inl (by simp)
    · right
      have hcell : ∀ j u, (us.flatMap f)[j]? = some u → w.cell? (a.add j) = some u := by
        intro j u hu
        rw [flat_get hp us (fun v hv => hlen v (h2 v hv))] at hu
        obtain ⟨v, hv, hq⟩ := Option.bind_eq_some_iff.1 hu
        have h5 := (World.cells?_some (h3 _ v hv)).2.2 (j % P.cellsOf e) (Nat.mod_lt _ hp)
        rw [hq] at h5
        rw [← h5]
        congr 1
        have : j / P.cellsOf e * P.cellsOf e + j % P.cellsOf e = j := by rw [Nat.mul_comm]; exact Nat.div_add_mod _ _
        obtain ⟨b, off, spot⟩ := a
        cases spot with
        | none => simp only [Addr.add_lit]; congr 1; omega
        | some q =>
          simp only [Addr.add]
          simp only [Addr.add] at *
          split <;> split <;> split <;> simp_all <;> omega
      obtain ⟨u0, us', rfl⟩ : ∃ u0 us', us = u0 :: us' := by cases us with | nil => exact absurd rfl hz | cons u us => exact ⟨u, us, rfl⟩
      have h0 : 0 < ((u0 :: us').flatMap f).length := by rw [flat_len _ fun u hu => hlen u (h2 u hu)]; simp; exact hp
      have hc0 := hcell 0 ((u0 :: us').flatMap f)[0] (List.getElem?_eq_getElem h0)
      have hspot := World.cell?_spot hc0
      obtain ⟨b, off, spot⟩ := a
      have hspot : spot = none := by simpa [Addr.add] using hspot
      subst hspot
      refine ⟨b, off, rfl, Nat.zero_le _, ?_, fun j u hu => by have := hcell j u hu; rwa [Addr.add_lit] at this⟩
      have h6 := hc0
      rw [Addr.add_lit] at h6
      cases hh : w.heap[b]? with
      | none => simp [World.cell?, hh] at h6
      | some o => exact (Array.getElem?_eq_some_iff.1 hh).1
end
section
variable {P : Program} {Q : Exit → Act → World → Prop} {a : Act} {w w' : World} {l : List (Nat × Value)} {ops : Array Oper} {rest : List Oper}
variable {d ty t t' : Nat} {p : String} {af : Array Edge} {x y : Operand} {k : IntKind} {m n r : Int}
end
end Go.Gx

/- Small laws for walks, the fourteenth part: a region whose order is open up to an operation behind which each one waits for all ahead of it. -/
namespace Go.Gx
open Go.RowKit
section
variable {P : Program} {ol : List Oper} {Q : Exit → Act → World → Prop} {Φ : Nat → Value → World → Prop} {a0 : Act} {N : Nat}
structure RTl (ol : List Oper) (Φ : Nat → Value → World → Prop) (m : Nat) (a0 : Act) (N : Nat) (w0 : World) (listed : Array Bool) (a : Act) (w : World) : Prop where
  size : a.tmps.size = N
  defers : a.defers = a0.defers
  base : ∀ t, (∀ j o, ol[j]? = some o → listed.getD j true = true → o.dst ≠ some t) → a.tmps.getD t undef = a0.tmps.getD t undef
  phi : ∀ j o d, ol[j]? = some o → listed.getD j true = true → o.dst = some d → Φ j (a.tmps.getD d undef) w
  closed : ∀ j o, ol[j]? = some o → listed.getD j true = true → ∀ e ∈ o.after, Region.binds .any e = true → listed.getD e.on false = true
  lsize : listed.size = ol.length
  low : ∀ j, j < ol.length → listed.getD j true = true → j < m
  rel : w0.grownBy w none
def ObT (P : Program) (ol : List Oper) (Φ : Nat → Value → World → Prop) (a0 : Act) (N : Nat) (w0 : World) (R : World → World → Prop) : Nat → Nat → List Oper → Prop
  | 0, _, _ => True
  | _ + 1, _, [] => True
  | k + 1, i, o :: r => ObN P ol Φ a0 N w0 R i o ∧ ObT P ol Φ a0 N w0 R k (i + 1) r
variable {w0 : World} {R : World → World → Prop}
theorem ObT.nil {i : Nat} {l : List Oper} : ObT P ol Φ a0 N w0 R 0 i l := by unfold ObT; trivial
theorem ObT.cons {k i : Nat} {o : Oper} {r : List Oper} (h : ObN P ol Φ a0 N w0 R i o) (h' : ObT P ol Φ a0 N w0 R k (i + 1) r) : ObT P ol Φ a0 N w0 R (k + 1) i (o :: r) := ⟨h, h'⟩
theorem ObT.getx : ∀ {l : List Oper} {k i : Nat}, ObT P ol Φ a0 N w0 R k i l → ∀ j o, j < k → l[j]? = some o → ObN P ol Φ a0 N w0 R (i + j) o
  | [], _, _, _, j, o, _, h => by simp at h
  | o' :: r, 0, i, h, j, o, hk, hj => by omega
  | o' :: r, k + 1, i, h, 0, o, _, hj => by simp at hj; subst hj; exact h.1
  | o' :: r, k + 1, i, h, j + 1, o, hk, hj => by
    have := ObT.getx h.2 j o (by omega) (by simpa using hj)
    rwa [show i + 1 + j = i + (j + 1) by omega] at this
theorem ObT.get {l : List Oper} {m : Nat} (h : ObT P ol Φ a0 N w0 R m 0 l) : ∀ j o, j < m → l[j]? = some o → ObN P ol Φ a0 N w0 R j o := fun j o hk hj => by
  have := ObT.getx h j o hk hj
  rwa [Nat.zero_add] at this
end
theorem one_at {cs : List Value} {k j : Nat} {v u : Value} (h : cs[k * 1 + 0]? = some v) (hu : [v][j]? = some u) : cs[k * 1 + j]? = some u := by
  rcases j with _ | j
  · simp at hu; subst hu; exact h
  · simp at hu
def PtC (w : World) (L B b off : Nat) (cs : List Value) : Prop := L ≤ b ∧ b < B ∧ ∀ j u, cs[j]? = some u → w.cell? ⟨b, off + j, none⟩ = some u
section
variable {w w' : World} {row : Option Nat} {L B b off : Nat} {cs : List Value}
theorem PtC.keep (h : PtC w L B b off cs) (E : w.grownBy w' row) (hne : ∀ k, row = some k → k < L ∨ B ≤ k) : PtC w' L B b off cs := by
  obtain ⟨h0, h1, h2⟩ := h
  refine ⟨h0, h1, fun j u hu => ?_⟩
  have := h2 j u hu
  rw [World.cell?_of_block (w := w) (E.block b (World.block_lt_of_cell? w _ this) (fun e => by have := hne b e.symm; omega))]
  exact this
theorem PtC.keep0 (h : PtC w L B b off cs) (E : w.grownBy w' none) : PtC w' L B b off cs := h.keep E (by simp)
theorem PtC.keepO {base e sz n : Nat} {ws : List Value} {v : Value} (h : PtC w L B b off cs) (O : Own w base e sz v n ws) (E : w.grownBy w' v.ownBlock) (hne : B ≤ base) : PtC w' L B b off cs :=
  h.keep E fun k hk => .inr (by have := (O.lt k hk).1; omega)
end
theorem Own.cast {w : World} {base e sz n n' : Nat} {v : Value} {cs cs' : List Value} (h : Own w base e sz v n cs) (hn : n = n') (hc : cs = cs') : Own w base e sz v n' cs' := by subst hn; subst hc; exact h
theorem RdC.cast {w : World} {L B sz n n' : Nat} {v : Value} {cs cs' : List Value} (h : RdC w L B sz v n cs) (hn : n = n') (hc : cs = cs') : RdC w L B sz v n' cs' := by subst hn; subst hc; exact h
def Lo (B : Nat) (w1 w2 : World) : Prop := w2.os = w1.os ∧ w2.tape = w1.tape ∧ w2.output = w1.output ∧ w1.heap.size ≤ w2.heap.size ∧ ∀ k, k < w1.heap.size → k < B → w2.heap[k]? = w1.heap[k]?
theorem Lo.refl (B : Nat) (w : World) : Lo B w w := ⟨rfl, rfl, rfl, Nat.le_refl _, fun _ _ _ => rfl⟩
theorem Lo.trans {B : Nat} {w1 w2 w3 : World} (h : Lo B w1 w2) (h' : Lo B w2 w3) : Lo B w1 w3 :=
  ⟨h'.1.trans h.1, h'.2.1.trans h.2.1, h'.2.2.1.trans h.2.2.1, Nat.le_trans h.2.2.2.1 h'.2.2.2.1, fun k hk hB => (h'.2.2.2.2 k (Nat.lt_of_lt_of_le hk h.2.2.2.1) hB).trans (h.2.2.2.2 k hk hB)⟩
theorem Lo.of {B : Nat} {w1 w2 : World} {row : Option Nat} (E : w1.grownBy w2 row) (hr : ∀ k, row = some k → B ≤ k) : Lo B w1 w2 :=
  ⟨E.os, E.tape, E.output, E.size, fun k hk hB => E.block k hk (fun hh => by have := hr k hh.symm; omega)⟩
theorem Lo.grown {w1 w2 : World} (h : Lo w1.heap.size w1 w2) : w1.grownBy w2 none := ⟨h.1, h.2.1, h.2.2.1, h.2.2.2.1, fun k hk _ => h.2.2.2.2 k hk hk⟩
theorem RdC.lo {w w' : World} {B0 L B sz n : Nat} {v : Value} {cs : List Value} (h : RdC w L B sz v n cs) (E : Lo B0 w w') (hB : B ≤ B0) : RdC w' L B sz v n cs := by
  obtain ⟨h0, a, c, hv, h1, h2, h3⟩ := h
  refine ⟨h0, a, c, hv, h1, h2, ?_⟩
  rcases h3 with h3 | ⟨b, off, ha, hL, hB', hc⟩
  · exact .inl h3
  · refine .inr ⟨b, off, ha, hL, hB', fun j u hu => ?_⟩
    have := hc j u hu
    rw [World.cell?_of_block (w := w) (E.2.2.2.2 b (World.block_lt_of_cell? w _ this) (by omega))]
    exact this
theorem PtC.lo {w w' : World} {B0 L B b off : Nat} {cs : List Value} (h : PtC w L B b off cs) (E : Lo B0 w w') (hB : B ≤ B0) : PtC w' L B b off cs := by
  obtain ⟨h0, h1, h2⟩ := h
  refine ⟨h0, h1, fun j u hu => ?_⟩
  have := h2 j u hu
  rw [World.cell?_of_block (w := w) (E.2.2.2.2 b (World.block_lt_of_cell? w _ this) (by omega))]
  exact this
section
variable {P : Program} {ol : List Oper} {Q : Exit → Act → World → Prop} {Φ : Nat → Value → World → Prop} {a0 : Act} {N : Nat}
def StB (B : Nat) : List (Value → World → Prop) → Prop
  | [] => True
  | φ :: L => (∀ u w1 w2, Lo B w1 w2 → φ u w1 → φ u w2) ∧ StB B L
theorem StB.get {B : Nat} : ∀ {L : List (Value → World → Prop)}, StB B L → ∀ j u w1 w2, Lo B w1 w2 → phiL L j u w1 → phiL L j u w2
  | [], _, j, _, _, _, _, _ => by simp [phiL]
  | φ :: L, h, 0, u, w1, w2, E, hp => h.1 u w1 w2 E hp
  | φ :: L, h, j + 1, u, w1, w2, E, hp => StB.get h.2 j u w1 w2 E hp
theorem StB.nil {B : Nat} : StB B [] := trivial
theorem StB.cons {B : Nat} {φ : Value → World → Prop} {L : List (Value → World → Prop)} (h : ∀ u w1 w2, Lo B w1 w2 → φ u w1 → φ u w2) (h' : StB B L) : StB B (φ :: L) := ⟨h, h'⟩
theorem StB.eq {B : Nat} {v : Value} {L : List (Value → World → Prop)} (h' : StB B L) : StB B ((fun u _ => u = v) :: L) := ⟨fun _ _ _ _ h => h, h'⟩
theorem StB.any {B : Nat} {L : List (Value → World → Prop)} (h' : StB B L) : StB B ((fun _ _ => True) :: L) := ⟨fun _ _ _ _ h => h, h'⟩
def ObS (P : Program) (ol : List Oper) (Φ : Nat → Value → World → Prop) (a0 : Act) (N : Nat) (w0 : World) (R : World → World → Prop) (i s : Nat) : Nat → List Oper → Prop
  | _, [] => True
  | j, o :: r => (j ≠ i → j ≠ s → ObN P ol Φ a0 N w0 R j o) ∧ ObS P ol Φ a0 N w0 R i s (j + 1) r
variable {w0 : World} {R : World → World → Prop} {i s : Nat}
theorem ObS.nil {j : Nat} : ObS P ol Φ a0 N w0 R i s j [] := trivial
theorem ObS.cons {j : Nat} {o : Oper} {r : List Oper} (h : ObN P ol Φ a0 N w0 R j o) (h' : ObS P ol Φ a0 N w0 R i s (j + 1) r) : ObS P ol Φ a0 N w0 R i s j (o :: r) := ⟨fun _ _ => h, h'⟩
theorem ObS.getx : ∀ {l : List Oper} {k : Nat}, ObS P ol Φ a0 N w0 R i s k l → ∀ j o, l[j]? = some o → k + j ≠ i → k + j ≠ s → ObN P ol Φ a0 N w0 R (k + j) o
  | [], _, _, j, o, h, _, _ => by simp at h
  | o' :: r, k, h, 0, o, hj, h1, h2 => by simp at hj; subst hj; exact h.1 h1 h2
  | o' :: r, k, h, j + 1, o, hj, h1, h2 => by
    have := ObS.getx h.2 j o (by simpa using hj) (by omega) (by omega)
    rwa [show k + 1 + j = k + (j + 1) by omega] at this
theorem ObS.get {l : List Oper} (h : ObS P ol Φ a0 N w0 R i s 0 l) : ∀ j o, l[j]? = some o → j ≠ i → j ≠ s → ObN P ol Φ a0 N w0 R j o := fun j o hj h1 h2 => by
  have := ObS.getx h j o hj (by omega) (by omega)
  rwa [Nat.zero_add] at this
end
theorem RdC.one {w : World} {L B sz n : Nat} {v : Value} {cs : List Value} (h : RdC w L B sz v n cs) : Value.oneCell' v = true := by
  obtain ⟨_, a, c, rfl, _⟩ := h; rfl
theorem RdC.sl {w : World} {L B sz n : Nat} {v : Value} {cs : List Value} (h : RdC w L B sz v n cs) : ∃ a n c, v = .slice a n c := by
  obtain ⟨_, a, c, rfl, _⟩ := h; exact ⟨_, _, _, rfl⟩
theorem Own.sl {w : World} {base e sz n : Nat} {v : Value} {cs : List Value} (h : Own w base e sz v n cs) : ∃ a n c, v = .slice a n c := h.rdw.sl
theorem RdC.cl {w : World} {L B sz n : Nat} {v : Value} {cs : List Value} (h : RdC w L B sz v n cs) : v.cells.toList = [v] := by
  obtain ⟨_, a, c, rfl, _⟩ := h; rfl
theorem Own.cl {w : World} {base e sz n : Nat} {v : Value} {cs : List Value} (h : Own w base e sz v n cs) : v.cells.toList = [v] := h.rdw.cl
theorem Own.one {w : World} {base e sz n : Nat} {v : Value} {cs : List Value} (h : Own w base e sz v n cs) : Value.oneCell' v = true := h.rdw.one
def DJ (v u : Value) : Prop := ∀ k, v.ownBlock = some k → u.ownBlock ≠ some k
theorem DJ.symm {v u : Value} (h : DJ v u) : DJ u v := fun k hk hg => h k hg hk
theorem DJ.step {v u u' : Value} {n : Nat} (hm : u'.ownBlock = u.ownBlock ∨ ∀ k, u'.ownBlock = some k → n ≤ k) (hl : ∀ k, v.ownBlock = some k → k < n) (h : DJ v u) : DJ v u' := by
  intro k hk hg
  rcases hm with hm | hm
  · rw [hm] at hg; exact h k hk hg
  · have h1 := hm k hg; have h2 := hl k hk; omega
theorem Own.keepD {w w' : World} {base e sz n : Nat} {v u : Value} {cs : List Value} (h : Own w base e sz v n cs) (E : w.grownBy w' u.ownBlock) (hd : DJ v u) : Own w' base e sz v n cs := by
  refine ⟨h.1, ?_⟩
  rcases h.2 with hn | ⟨g, off, cap, cur, fr, rfl, hb, hg, r⟩
  · exact .inl hn
  · refine .inr ⟨g, off, cap, cur, fr, rfl, hb, ?_, r⟩
    rw [E.block g (Array.getElem?_eq_some_iff.1 hg).1 (fun hh => hd g (by simp [Value.ownBlock]) hh.symm)]
    exact hg
theorem Own.keepT {w w' : World} {base e sz n base2 e2 sz2 n2 : Nat} {v u : Value} {cs ws : List Value} (h : Own w base e sz v n cs) (O : Own w base2 e2 sz2 u n2 ws) (E : w.grownBy w' u.ownBlock) (hne : e ≠ e2) : Own w' base e sz v n cs := by
  refine h.keepD E fun k hk hg => ?_
  rcases h.2 with ⟨rfl, _⟩ | ⟨g, off, cap, cur, fr, rfl, hb, hg1, _⟩
  · simp [Value.ownBlock] at hk
  · rcases O.2 with ⟨rfl, _⟩ | ⟨g', off', cap', cur', fr', rfl, hb', hg2, _⟩
    · simp [Value.ownBlock] at hg
    · simp [Value.ownBlock] at hk hg
      subst hk; subst hg
      rw [hg1] at hg2
      simp at hg2
      exact hne hg2.2.1
section
variable {P : Program} {Q : Exit → Act → World → Prop} {a : Act} {w : World} {N : Nat} {x1 x2 x3 x4 x5 x6 x7 x8 t : Code}
end
end Go.Gx

/- Small laws, the fifteenth part: numbers of two bytes, and bytes of numbers. -/
namespace Go.Gx
open Go.RowKit
def u16v (c : UInt16) : Value := .int .u16 (c.toNat : Int)
theorem Dec.u16 {H : Type} {enc : TypeId × Value → H} {P : Program} {w : World} {base : Nat} {spare : Nat → Bool} {held : Bool} {t : TypeId} (ht : P.underlying t = some (.int .u16)) : Dec enc P w base spare held t (fun c => [u16v c]) (fun _ => True) :=
  (Dec.int ht).map fun n hn => by
    simp only [Lit.wf, Bool.and_eq_true, decide_eq_true_eq] at hn
    have h1 : 0 ≤ n ∧ n ≤ 65535 := hn
    refine ⟨UInt16.ofNat n.toNat, ?_, trivial⟩
    have : (UInt16.ofNat n.toNat).toNat = n.toNat := by rw [UInt16.toNat_ofNat']; omega
    simp [u16v, this]; omega
theorem Dec.u64 {H : Type} {enc : TypeId × Value → H} {P : Program} {w : World} {base : Nat} {spare : Nat → Bool} {held : Bool} {t : TypeId} (ht : P.underlying t = some (.int .u64)) : Dec enc P w base spare held t (fun c : UInt64 => [.int .u64 (c.toNat : Int)]) (fun _ => True) :=
  (Dec.int ht).map fun n hn => by
    simp only [Lit.wf, Bool.and_eq_true, decide_eq_true_eq] at hn
    have h1 : 0 ≤ n ∧ n ≤ 18446744073709551615 := hn
    refine ⟨UInt64.ofNat n.toNat, ?_, trivial⟩
    have : (UInt64.ofNat n.toNat).toNat = n.toNat := by rw [UInt64.toNat_ofNat']; omega
    simp [this]; omega
theorem el_u16 {l : List UInt16} {e : Int} {i : Nat} (he : e = (i : Int)) (h : i < l.length) : (l.map u16v)[e.toNat * 1 + 0]? = some (Value.int .u16 ((l.getD i 0).toNat : Int)) := by
  subst he
  simp [h, u16v, List.getD_eq_getElem?_getD]
end Go.Gx

/- Small laws for walks, the sixteenth part: a region whose order is open, in which one's own list is read, and then written in a chain. -/
namespace Go.Gx
open Go.RowKit
section
variable {P : Program} {ol : List Oper} {Q : Exit → Act → World → Prop} {Φ : Nat → Value → World → Prop} {C : Nat → Value → World → Prop} {ch : Chain} {R : World → World → Prop} {a0 : Act} {N : Nat}
end
section
variable {P : Program} {ol : List Oper} {Q : Exit → Act → World → Prop} {Φ : Nat → Value → World → Prop} {a0 : Act} {N : Nat} {base e sz n : Nat} {v : Value}
def ObR (P : Program) (ol : List Oper) (Φ : Nat → Value → World → Prop) (CS : List (List Value)) (ops : List Nat) (base e sz n : Nat) (v : Value) (a0 : Act) (N : Nat) (w0 : World) (i : Nat) (o : Oper) : Prop :=
  ∀ (a : Act) (w : World) (c : Nat), a.tmps.size = N → w0.grownBy w v.ownBlock → (∀ m k, ops[m]? = some k → depB ol k i = true → c ≤ m) → Own w base e sz v n (CS.getD c []) →
    (∀ t, safeB ol i t = true → a.tmps.getD t undef = a0.tmps.getD t undef) → (∀ j oj d, depB ol i j = true → ol[j]? = some oj → oj.dst = some d → Φ j (a.tmps.getD d undef) w) →
    wpList P ol.toArray (fun e a' w' => e = .normal ∧ (∃ d v, o.dst = some d ∧ a' = putsL a [(d, v)] ∧ Φ i v w') ∧ w.grownBy w' none) [o] (putsL a []) w
def ObW (P : Program) (ol : List Oper) (Φ : Nat → Value → World → Prop) (CS : List (List Value)) (base e sz n : Nat) (v : Value) (a0 : Act) (N : Nat) (w0 : World) (c i : Nat) (o : Oper) : Prop :=
  ∀ (a : Act) (w : World), a.tmps.size = N → w0.grownBy w v.ownBlock → (∀ t, safeB ol i t = true → a.tmps.getD t undef = a0.tmps.getD t undef) → (∀ j oj d, depB ol i j = true → ol[j]? = some oj → oj.dst = some d → Φ j (a.tmps.getD d undef) w) → Own w base e sz v n (CS.getD c []) →
    wpList P ol.toArray (fun ex a' w' => ex = .normal ∧ ((o.dst = none ∧ a' = a) ∨ ∃ d v, o.dst = some d ∧ a' = putsL a [(d, v)] ∧ Φ i v w') ∧ Own w' base e sz v n (CS.getD (c + 1) []) ∧ w.grownBy w' v.ownBlock) [o] (putsL a []) w
end
section
variable {P : Program} {ol : List Oper} {Φ : Nat → Value → World → Prop} {CS : List (List Value)} {ops : List Nat} {a0 : Act} {N : Nat} {w0 : World} {base e sz n : Nat} {v : Value}
def ObRs (P : Program) (ol : List Oper) (Φ : Nat → Value → World → Prop) (CS : List (List Value)) (ops : List Nat) (base e sz n : Nat) (v : Value) (a0 : Act) (N : Nat) (w0 : World) : Nat → List Oper → Prop
  | _, [] => True
  | i, o :: r => (ops.contains i = false → ObR P ol Φ CS ops base e sz n v a0 N w0 i o) ∧ ObRs P ol Φ CS ops base e sz n v a0 N w0 (i + 1) r
theorem ObRs.nil {i : Nat} : ObRs P ol Φ CS ops base e sz n v a0 N w0 i [] := trivial
theorem ObRs.cons {i : Nat} {o : Oper} {r : List Oper} (h : ObR P ol Φ CS ops base e sz n v a0 N w0 i o) (h' : ObRs P ol Φ CS ops base e sz n v a0 N w0 (i + 1) r) : ObRs P ol Φ CS ops base e sz n v a0 N w0 i (o :: r) := ⟨fun _ => h, h'⟩
theorem ObRs.pass {i : Nat} {o : Oper} {r : List Oper} (hh : ops.contains i = true) (h' : ObRs P ol Φ CS ops base e sz n v a0 N w0 (i + 1) r) : ObRs P ol Φ CS ops base e sz n v a0 N w0 i (o :: r) := ⟨fun h => absurd (hh.symm.trans h) (by decide), h'⟩
theorem ObRs.getx : ∀ {l : List Oper} {i : Nat}, ObRs P ol Φ CS ops base e sz n v a0 N w0 i l → ∀ j o, l[j]? = some o → ops.contains (i + j) = false → ObR P ol Φ CS ops base e sz n v a0 N w0 (i + j) o
  | [], _, _, j, o, h, _ => by simp at h
  | o' :: r, i, h, 0, o, hj, hs => by simp at hj; subst hj; exact h.1 hs
  | o' :: r, i, h, j + 1, o, hj, hs => by
    have := ObRs.getx h.2 j o (by simpa using hj) (by rwa [show i + 1 + j = i + (j + 1) by omega])
    rwa [show i + 1 + j = i + (j + 1) by omega] at this
theorem ObRs.get {l : List Oper} (h : ObRs P ol Φ CS ops base e sz n v a0 N w0 0 l) : ∀ j o, l[j]? = some o → ops.contains j = false → ObR P ol Φ CS ops base e sz n v a0 N w0 j o := fun j o hj hs => by
  have := ObRs.getx h j o hj (by rwa [Nat.zero_add])
  rwa [Nat.zero_add] at this
def ObWs (P : Program) (ol : List Oper) (Φ : Nat → Value → World → Prop) (CS : List (List Value)) (base e sz n : Nat) (v : Value) (a0 : Act) (N : Nat) (w0 : World) : Nat → List Nat → Prop
  | _, [] => True
  | c, i :: r => (∀ o, ol[i]? = some o → ObW P ol Φ CS base e sz n v a0 N w0 c i o) ∧ ObWs P ol Φ CS base e sz n v a0 N w0 (c + 1) r
theorem ObWs.nil {c : Nat} : ObWs P ol Φ CS base e sz n v a0 N w0 c [] := trivial
theorem ObWs.cons {c i : Nat} {r : List Nat} (h : ∀ o, ol[i]? = some o → ObW P ol Φ CS base e sz n v a0 N w0 c i o) (h' : ObWs P ol Φ CS base e sz n v a0 N w0 (c + 1) r) : ObWs P ol Φ CS base e sz n v a0 N w0 c (i :: r) := ⟨h, h'⟩
theorem ObWs.getx : ∀ {l : List Nat} {c : Nat}, ObWs P ol Φ CS base e sz n v a0 N w0 c l → ∀ m i o, l[m]? = some i → ol[i]? = some o → ObW P ol Φ CS base e sz n v a0 N w0 (c + m) i o
  | [], _, _, j, i, o, h, _ => by simp at h
  | o' :: r, c, h, 0, i, o, hj, ho => by simp at hj; subst hj; exact h.1 o ho
  | o' :: r, c, h, j + 1, i, o, hj, ho => by
    have := ObWs.getx h.2 j i o (by simpa using hj) ho
    rwa [show c + 1 + j = c + (j + 1) by omega] at this
theorem ObWs.get {l : List Nat} (h : ObWs P ol Φ CS base e sz n v a0 N w0 0 l) : ∀ m i o, l[m]? = some i → ol[i]? = some o → ObW P ol Φ CS base e sz n v a0 N w0 m i o := fun m i o hj ho => by
  have := ObWs.getx h m i o hj ho
  rwa [Nat.zero_add] at this
end
theorem StL.at {row : Option Nat} {v : Value} {q : Nat} {L : List (Value → World → Prop)} (h' : StL row L) : StL row ((fun u _ => ∃ b o, u = ptr b o ∧ AtV v q b o) :: L) := ⟨fun _ _ _ _ h => h, h'⟩
end Go.Gx

/- Small laws for walks, the seventeenth part: the tail of one's own list, looked at while the list is written; clear; a list that is asked whether it is nil. -/
namespace Go.Gx
open Go.RowKit
section
variable {P : Program} {Q : Exit → Act → World → Prop} {a : Act} {w w' : World} {l : List (Nat × Value)} {ops : Array Oper} {rest : List Oper}
variable {d ty t : Nat} {p : String} {af : Array Edge} {x y : Operand} {v : Value} {n k L B base e by_ : Nat} {cs : List Value} {zv : Value}
def tailV (v : Value) (k : Nat) : Value := match v with | .slice (some ⟨b, off, none⟩) n c => .slice (some ⟨b, off + k, none⟩) (n - k) (c - k) | x => x
theorem RdC.tail (R : RdC w L B 1 v n cs) (h0 : 0 < n) (hk : k ≤ n) : RdC w L B 1 (tailV v k) (n - k) (cs.drop k) := by
  obtain ⟨hl, ad, c, rfl, hnc, hcm, hr⟩ := R
  rcases hr with rfl | ⟨b, off, rfl, h1, h2, hc⟩
  · simp at hl; omega
  · exact ⟨by simp; omega, _, _, rfl, by omega, by omega, .inr ⟨b, off + k, rfl, h1, h2, fun j u hj => by
      have := hc (k + j) u (by simpa using hj)
      rw [show off + k + j = off + (k + j) by omega]; exact this⟩⟩
theorem RdC.cells {sz : Nat} (R : RdC w L B sz v n cs) : v.cells.toList = [v] := by
  obtain ⟨hl, ad, c, rfl, hnc, hcm, hr⟩ := R
  rfl
theorem op_eql_nil {xt yt sz : Nat} (T : SlT P xt e zv sz by_) (hx : (putsL a l).eval x = v) (hy : (putsL a l).eval y = .slice none 0 0) (R : RdC w L B sz v n cs)
    (h1 : n = 0 → wpList P ops Q rest (putsL a ((d, .bool true) :: l)) w) (h2 : wpList P ops Q rest (putsL a ((d, .bool false) :: l)) w) :
    wpList P ops Q (⟨some d, .binOp .eql xt x y yt, ty, p, af, none⟩ :: rest) (putsL a l) w := by
  obtain ⟨hl, ad, c, rfl, hnc, hcm, hr⟩ := R
  have hrun : (execOp (putsL a l).eval (⟨some d, .binOp .eql xt x y yt, ty, p, af, none⟩ : Oper)).run P w = .ok (.value (.bool ad.isNone)) w := by
    have := Lib.run_eql_slice_nil (P := P) w xt e ad n c 0 0 T.und
    have hg : (eqGuard .eql xt x y (Value.slice ad n c) (Value.slice none 0 0)).run P w = .ok () w := by simp [eqGuard]
    simp only [execOp, hx, hy]
    simp [this, hg]
  cases ad with
  | none =>
    refine op_gen rfl hrun (h1 ?_)
    rcases hr with rfl | ⟨b, off, hv, _⟩
    · have hp := T.pos
      have hq : n * sz = 0 := by simpa using hl.symm
      rcases Nat.mul_eq_zero.1 hq with h | h
      · exact h
      · omega
    · cases hv
  | some ad => exact op_gen rfl hrun h2
theorem op_mkfn {f : FuncId} {co : List Operand} {cv : List Value} (hm : argsEv (putsL a l).eval co cv) (h : wpList P ops Q rest (putsL a ((d, .func (.func f) #[] cv.toArray) :: l)) w) :
    wpList P ops Q (⟨some d, .makeFunc (.func f) #[] co.toArray, ty, p, af, none⟩ :: rest) (putsL a l) w := by
  refine op_gen rfl ?_ h
  have e : co.toArray.map (putsL a l).eval = cv.toArray := by rw [List.map_toArray, argsEv_map hm]
  simp [execOp, e, Instr.makeFunc]
end
end Go.Gx

/- Small laws for walks, the eighteenth part: append of zeros onto nothing, cuts of one's own lists. -/
namespace Go.Gx
open Go.RowKit
section
variable {P : Program} {Q : Exit → Act → World → Prop} {a : Act} {w w' : World} {l : List (Nat × Value)} {ops : Array Oper} {rest : List Oper}
variable {d ty t e : Nat} {p : String} {af : Array Edge} {x y : Operand} {v : Value} {k : IntKind} {n base sz by_ : Nat} {cs : List Value} {zv : Value}
theorem Ret.flip {f : FuncId} {args : Array Value} {A : Value → Prop} (h : Ret P f args w (fun v w' => A v ∧ w' = w)) : Ret P f args w (fun v w' => A v ∧ w = w') := h.mono fun _ _ h => ⟨h.1, h.2.symm⟩
theorem Own.cut (O : Own w base e sz v n cs) {m : Nat} (hm : m ≤ n) : ∃ v', (v = .slice none 0 0 ∧ v' = .slice none 0 0 ∨ ∃ g c, v = .slice (some g) n c ∧ v' = .slice (some g) m c) ∧ Own w base e sz v' m (cs.take (m * sz)) ∧ v'.ownBlock = v.ownBlock := by
  obtain ⟨hl, ⟨rfl, rfl⟩ | ⟨g, off, cap, cur, fr, rfl, hb, hg, hf, hnc, hcm, hfit, htk⟩⟩ := O
  · have : m = 0 := by omega
    subst this
    exact ⟨_, .inl ⟨rfl, rfl⟩, by simpa using Own.nil w base e sz, rfl⟩
  · have hle : m * sz ≤ n * sz := Nat.mul_le_mul_right _ hm
    exact ⟨_, .inr ⟨_, _, rfl, rfl⟩, ⟨by simp; omega, .inr ⟨g, off, cap, cur, fr, rfl, hb, hg, hf, by omega, hcm, hfit, by rw [← htk, List.take_take, Nat.min_eq_left hle]⟩⟩, rfl⟩
end
end Go.Gx

/- Small laws for walks, the nineteenth part: regions of open order whose operations leave the world as it is, told in the text's order. -/
namespace Go.Gx
open Go.RowKit
def plainOp : Op → Bool
  | .move _ | .assign _ | .pick _ _ _ | .build _ _ | .load _ _ | .nilCheck _ | .binOp _ _ _ _ _ | .unOp _ _ _ | .convert _ _ _ | .slice _ _ _ _ _ | .fieldAddr _ _ _ | .field _ _ _ | .indexAddr _ _ _ | .index _ _ _ | .lookup _ _ _ _ | .makeFunc _ _ _ | .extract _ _ => true
  | .call ⟨.builtin .len, _, _⟩ | .call ⟨.builtin .cap, _, _⟩ | .call ⟨.builtin .min, _, _⟩ | .call ⟨.builtin .max, _, _⟩ => true
  | _ => false
def ValOrHalt (r : Result Next) : Prop := (∃ v w', r = .ok (.value v) w') ∨ ∃ x w', r = .halt x w'
theorem vh_bind {P : Program} {w : World} (s : Sem Value) : ValOrHalt ((do let v ← s; pure (Next.value v) : Sem Next).run P w) := by
  rw [Sem.run_bind]
  cases hs : s.run P w with
  | ok v w' => exact .inl ⟨v, w', by simp⟩
  | halt x w' => exact .inr ⟨x, w', by simp [Result.andThen]⟩
theorem vh_pure {P : Program} {w : World} (v : Value) : ValOrHalt ((pure (Next.value v) : Sem Next).run P w) := .inl ⟨v, w, by simp⟩
theorem vh_then {P : Program} {w : World} {α : Type} (s : Sem α) (f : α → Sem Next) (h : ∀ x w, ValOrHalt ((f x).run P w)) : ValOrHalt ((do let x ← s; f x : Sem Next).run P w) := by
  rw [Sem.run_bind]
  cases hs : s.run P w with
  | ok v w' => simpa using h v w'
  | halt x w' => exact .inr ⟨x, w', by simp [Result.andThen]⟩
theorem run_plain {P : Program} {ρ : Operand → Value} {w : World} {o : Oper} (h : plainOp o.op = true) : ValOrHalt ((execOp ρ o).run P w) := by
  obtain ⟨dst, op, ty, pos, af, g⟩ := o
  cases op <;> simp only [plainOp] at h <;> first | (cases h; done) | skip
  case move => exact vh_pure _
  case assign => exact vh_pure _
  case pick => exact vh_then _ _ fun _ _ => vh_pure _
  case nilCheck x =>
    simp only [execOp]
    split
    · exact .inr ⟨_, _, rfl⟩
    · exact .inr ⟨_, _, rfl⟩
    · exact .inr ⟨_, _, rfl⟩
    · split
      · exact .inr ⟨_, _, rfl⟩
      · refine vh_then _ _ fun _ _ => vh_then _ _ fun _ _ => ?_
        split
        · exact vh_then _ _ fun _ _ => vh_pure _
        · exact vh_pure _
      · exact vh_pure _
    · exact vh_pure _
  case call c =>
    obtain ⟨callee, ags, ts⟩ := c
    cases callee with
    | builtin b => cases b <;> simp only [plainOp] at h <;> first | (cases h; done) | exact vh_bind (Builtin.len_ ts ty (ags.map ρ)) | exact vh_bind (Builtin.cap_ ts ty (ags.map ρ)) | exact vh_bind (Builtin.min_ ts ty (ags.map ρ)) | exact vh_bind (Builtin.max_ ts ty (ags.map ρ))
    | value x => simp [plainOp] at h
    | invoke r n => simp [plainOp] at h
  all_goals exact vh_bind _
section
variable {P : Program} {Q : Exit → Act → World → Prop} {a : Act} {w w' : World} {l : List (Nat × Value)} {ops : Array Oper} {rest : List Oper} {K : Act → Prop}
variable {d ty xt yt t e : Nat} {p : String} {af : Array Edge} {x y z : Operand} {v u zv : Value} {k : IntKind} {m n r : Int}
theorem st_nil (h : K a) : wpStill P ops w K [] a := h
theorem st_any {S : Act → Prop} {o : Oper} {A : Act} (hp : plainOp o.op = true) (H : ∀ Q : Exit → Act → World → Prop, (∀ a', S a' → Q .normal a' w) → wpList P ops Q [o] A w) (h : ∀ a', S a' → wpStill P ops w K rest a') : wpStill P ops w K (o :: rest) A := by
  have G := H (fun e a' w' => e = .normal ∧ w' = w ∧ S a') fun a' hs => ⟨rfl, rfl, hs⟩
  unfold wpList at G
  unfold wpStill
  by_cases hw : Region.wanted o (yielded ops A.tmps) = true
  · rw [if_pos hw] at G ⊢
    rcases G with G | ⟨_, a1, w1, h1, _⟩
    · unfold Oper.wp at G
      unfold Oper.still
      rcases run_plain (P := P) (ρ := A.eval) (w := w) hp with ⟨v, w', hr⟩ | ⟨x, w', hr⟩
      · rw [hr] at G ⊢
        simp only [Oper.upon] at G
        obtain ⟨_, rfl, hs⟩ := (show Exit.normal = Exit.normal ∧ w' = w ∧ S (A.put o.dst v) from G)
        exact ⟨rfl, h _ hs⟩
      · rw [hr] at G
        exfalso
        cases x <;> simp only [Oper.upon] at G
        exact absurd G.1 (by simp)
    · cases h1
  · rw [if_neg hw] at G ⊢
    exact h _ (show Exit.normal = Exit.normal ∧ w = w ∧ S (A.put o.dst undef) from G).2.2
theorem st_step {o : Oper} {A B : Act} (hp : plainOp o.op = true) (H : ∀ Q : Exit → Act → World → Prop, wpList P ops Q [] B w → wpList P ops Q [o] A w) (h : wpStill P ops w K rest B) : wpStill P ops w K (o :: rest) A :=
  st_any (S := fun a' => a' = B) hp (fun Q hq => H Q (hq B rfl)) fun _ e => by subst e; exact h
theorem st_index_rd {L B sz c : Nat} {cs : List Value} {i : Int} {z : Value} {by_ : Nat} (T : SlT P xt e z sz by_) (hx : (putsL a l).eval x = v) (hr : RdC w L B sz v c cs) (hy : (putsL a l).eval y = .int k i) (h0 : 0 ≤ i) (h1 : i < (c : Int))
    (h : ∀ b off, L ≤ b → b < B → (∀ j u, j < sz → cs[i.toNat * sz + j]? = some u → w.cell? ⟨b, off + j, none⟩ = some u) → wpStill P ops w K rest (putsL a ((d, ptr b off) :: l))) :
    wpStill P ops w K (⟨some d, .indexAddr xt x y, ty, p, af, none⟩ :: rest) (putsL a l) :=
  st_any (S := fun a' => ∃ b off, (L ≤ b ∧ b < B ∧ ∀ j u, j < sz → cs[i.toNat * sz + j]? = some u → w.cell? ⟨b, off + j, none⟩ = some u) ∧ a' = putsL a ((d, ptr b off) :: l)) rfl
    (fun _ hq => op_index_rd T hx hr hy h0 h1 fun b off g1 g2 g3 => hq _ ⟨b, off, ⟨g1, g2, g3⟩, rfl⟩) fun _ ⟨b, off, ⟨g1, g2, g3⟩, e⟩ => by subst e; exact h b off g1 g2 g3
theorem st_index_own {n base sz by_ i : Nat} {cs : List Value} (T : SlT P xt e zv sz by_) (hx : (putsL a l).eval x = v) (O : Own w base e sz v n cs) (hy : (putsL a l).eval y = .int k r) (hr : r = (i : Int)) (h1 : i < n)
    (h : ∀ b o, base ≤ b → AtV v (i * sz) b o → wpStill P ops w K rest (putsL a ((d, ptr b o) :: l))) : wpStill P ops w K (⟨some d, .indexAddr xt x y, ty, p, af, none⟩ :: rest) (putsL a l) :=
  st_any (S := fun a' => ∃ b o, (base ≤ b ∧ AtV v (i * sz) b o) ∧ a' = putsL a ((d, ptr b o) :: l)) rfl (fun _ hq => op_index_own T hx O hy hr h1 fun b o g1 g2 => hq _ ⟨b, o, ⟨g1, g2⟩, rfl⟩) fun _ ⟨b, o, ⟨g1, g2⟩, e⟩ => by subst e; exact h b o g1 g2
theorem getD_mem {α : Type} {l : List α} {i : Nat} {d : α} (h : i < l.length) : l.getD i d ∈ l := by simp [h]
theorem el_ll {α : Type} {l : List (Value × α)} {e : Int} {i : Nat} {d : Value × α} (he : e = (i : Int)) (h : i < l.length) : (l.flatMap (fun x9 => [x9.1]))[e.toNat * 1 + 0]? = some (l.getD i d).1 := by
  subst he
  rw [flat_get (sz := 1) (by decide) l (fun _ _ => rfl)]
  simp [h, Nat.mod_one]
end
end Go.Gx

/- Small laws for walks, the twentieth part: a region whose first operations come in any order, and the others behind them, one by one. -/
namespace Go.Gx
open Go.RowKit
def RegAny (P : Program) (ol : List Oper) (Q : Exit → Act → World → Prop) (a : Act) (w : World) : Prop :=
  wpAny P .any ol.toArray Q ol.length (Array.replicate ol.length false) a { w with drawn := w.drawn + 1 }
theorem reg_of_any {P : Program} {id : Nat} {ol : List Oper} {Q : Exit → Act → World → Prop} {a : Act} {w : World} (hm : P.follows .mixedOrders = true) (h : RegAny P ol Q a w) : (Code.region id ol.toArray true).wp P Q a w :=
  wp_region_any hm (by simpa [RegAny] using h)
def AnyFrom (P : Program) (ol : List Oper) (Q : Exit → Act → World → Prop) (k : Nat) (a : Act) (w : World) : Prop :=
  wpAny P .any ol.toArray Q (ol.length - k) (Array.replicate k true ++ Array.replicate (ol.length - k) false) a w
def restB (ol : List Oper) (m : Nat) : Bool :=
  Region.sinkB .any ol.toArray m && (List.range ol.length).all (fun t => decide (t ≤ m) || (List.range ol.length).any fun s => decide (m ≤ s) && Region.waitsFor .any ol.toArray t s)
def splitB (ol : List Oper) (m : Nat) : Bool :=
  Nat.blt m ol.length && restB ol m && lexB' ol && (ol.take m).all (fun o => match o.guard with | some (j, _) => Nat.blt j m | none => true)
section
variable {P : Program} {Q : Exit → Act → World → Prop} {A B : List Oper}
theorem upon_split {o : Oper} {a : Act} {w : World} {K K' : Act → World → Prop} {Q1 : Exit → Act → World → Prop} (hk : ∀ a w, K a w → K' a w) (hq : ∀ e a w, Q1 e a w → e = .normal) (h : o.wp P a w K Q1 ∨ (o.asks P a w ∧ LetsOut Q1)) : o.wp P a w K' Q ∨ (o.asks P a w ∧ LetsOut Q) := by
  rcases h with h | ⟨_, a1, w1, h1⟩
  · refine .inl ?_
    unfold Oper.wp at *
    generalize (execOp a.eval o).run P w = r at *
    cases r with
    | ok n w' =>
      cases n <;> simp only [Oper.upon] at h ⊢ <;>
        first
          | exact hk _ _ h
          | exact Calls.mono h (fun e w'' he => by
              cases e with
              | returned v => exact hk _ _ he
              | panicked c => exact absurd (hq _ _ _ he) (by simp)
              | outgrown => obtain ⟨a1, w1, h1⟩ := he; exact absurd (hq _ _ _ h1) (by simp))
          | exact Rows.mono h (fun _ _ he => hk _ _ he)
    | halt x w' => cases x <;> simp only [Oper.upon] at h ⊢ <;> exact absurd (hq _ _ _ h) (by simp)
  · exact absurd (hq _ _ _ h1) (by simp)
theorem get_left {i : Nat} (h : i < A.length) : (A ++ B).toArray[i]? = A.toArray[i]? := by simp [List.getElem?_append_left h]
theorem gd_left {listed : Array Bool} {n i : Nat} {d : Bool} (h : i < listed.size) : (listed ++ Array.replicate n false).getD i d = listed.getD i d := by
  simp [Array.getD_eq_getD_getElem?, Array.getElem?_append_left h]
theorem gd_right {listed : Array Bool} {n i : Nat} (h : listed.size ≤ i) : (listed ++ Array.replicate n false).getD i false = false := by
  rw [Array.getD_eq_getD_getElem?, Array.getElem?_append_right h]
  rcases Nat.lt_or_ge (i - listed.size) n with h1 | h1
  · simp [h1]
  · simp [h1]
theorem split_steps (hs : splitB (A ++ B) A.length = true) : ∀ (f : Nat) (listed : Array Bool) (a : Act) (w : World), listed.size = A.length →
    (∀ j o, A[j]? = some o → listed.getD j true = true → ∀ e ∈ o.after, Region.binds .any e = true → listed.getD e.on false = true) → (List.range A.length).countP (fun i => !listed.getD i true) = f →
    wpAny P .any A.toArray (fun e a w => e = .normal ∧ AnyFrom P (A ++ B) Q A.length a w) f listed a w → wpAny P .any (A ++ B).toArray Q (f + B.length) (listed ++ Array.replicate B.length false) a w := by
  simp only [splitB, restB, Bool.and_eq_true, Nat.blt_eq, List.length_append] at hs
  obtain ⟨⟨⟨hlt, hsink, hchain⟩, hlex⟩, hgd⟩ := hs
  have hlen : A.length + B.length - A.length = B.length := by omega
  rw [List.take_left] at hgd
  intro f
  induction f with
  | zero =>
    intro listed a w hsz hcl hc H
    have hall : listed = Array.replicate A.length true := by
      apply Array.ext
      · simp [hsz]
      · intro i h1 h2
        have hz := List.countP_eq_zero.1 hc i (by simpa using h2)
        simp [Array.getD_eq_getD_getElem?, h1] at hz
        simp [hz]
    subst hall
    have := H.2.2
    unfold AnyFrom at this
    rw [List.length_append, hlen] at this
    rwa [Nat.zero_add]
  | succ f ih =>
    intro listed a w hsz hcl hc H
    -- one of the first is not there yet
    have hex : ∃ i, i < A.length ∧ listed.getD i true = false := by
      refine Decidable.by_contra fun hn => ?_
      have : (List.range A.length).countP (fun i => !listed.getD i true) = 0 := by
        rw [List.countP_eq_zero]
        intro i hi hb
        exact hn ⟨i, by simpa using hi, by simpa using hb⟩
      omega
    have hloc : ∀ i, i < A.length → ∀ o, A[i]? = some o → ∀ e ∈ o.after, Region.binds .any e = true → e.on < i := by
      intro i hi o ho e he hb
      have h1 := List.all_eq_true.1 hlex i (by simp; omega)
      simp only [List.getElem?_append_left hi, ho, Array.all_eq_true_iff_forall_mem, Bool.or_eq_true, Bool.not_eq_true', Nat.blt_eq] at h1
      exact (h1 e he).resolve_left (by simp [hb])
    have hfirst : ∃ i, i ∈ Region.ready .any A.toArray listed := by
      obtain ⟨i, hi, hf⟩ := hex
      induction i using Nat.strongRecOn with
      | _ i ihi =>
        by_cases hr : i ∈ Region.ready .any A.toArray listed
        · exact ⟨i, hr⟩
        · rw [mem_ready] at hr
          have : ¬ ∀ e ∈ A[i].after, Region.binds .any e = true → listed.getD e.on false = true := fun hh => hr ⟨hf, A[i], by simp [hi], hh⟩
          simp only [Classical.not_forall] at this
          obtain ⟨e, he, hb, hne⟩ := this
          have hlo := hloc i hi A[i] (by simp [hi]) e he hb
          exact ihi e.on hlo (by omega) (by
            rw [← Bool.not_eq_true]; intro hh; exact hne (getD_true_lt hh (by omega)))
    -- what is ready, is one of the first
    have hready : ∀ i, i ∈ Region.ready .any (A ++ B).toArray (listed ++ Array.replicate B.length false) → i ∈ Region.ready .any A.toArray listed := by
      intro i hi
      obtain ⟨hun, o, ho, hw⟩ := mem_ready.1 hi
      rcases Nat.lt_or_ge i A.length with hia | hia
      · rw [gd_left (by omega)] at hun
        rw [get_left hia] at ho
        refine mem_ready.2 ⟨hun, o, ho, fun e he hb => ?_⟩
        have := hw e he hb
        have hlo := hloc i hia o (by simpa using ho) e he hb
        rwa [gd_left (by omega)] at this
      · exfalso
        rcases Nat.lt_or_ge A.length i with h1 | h1
        · have hin : i < A.length + B.length := by have := (Array.getElem?_eq_some_iff.1 ho).1; simpa using this
          have h2 := List.all_eq_true.1 hchain i (by simp; omega)
          simp only [Bool.or_eq_true, decide_eq_true_eq] at h2
          obtain ⟨q, hq1, hq2⟩ := List.any_eq_true.1 (h2.resolve_left (by omega))
          simp only [Bool.and_eq_true, decide_eq_true_eq] at hq2
          obtain ⟨oj, hoj, e, he, hb, hon⟩ := Region.waitsFor_spec hq2.2
          rw [ho] at hoj; cases hoj
          have := hw e he hb
          rw [hon, gd_right (by omega)] at this
          cases this
        · have : i = A.length := by omega
          subst this
          obtain ⟨i0, hi0, hf0⟩ := hex
          -- the last that is not there is waited for
          have hup : ∀ k i, A.length - i = k → i < A.length → listed.getD i true = false → False := by
            intro k
            induction k using Nat.strongRecOn with
            | _ k ihk =>
              intro i hk hi hf
              have h3 := List.all_eq_true.1 hsink i (by simpa using hi)
              obtain ⟨j, hj, h4⟩ := List.any_eq_true.1 h3
              simp only [Bool.and_eq_true, decide_eq_true_eq, List.mem_range] at h4 hj
              obtain ⟨oj, hoj, e, he, hb, hon⟩ := Region.waitsFor_spec h4.2
              rcases Nat.lt_or_ge j A.length with hja | hja
              · refine ihk (A.length - j) (by omega) j rfl hja ?_
                rw [← Bool.not_eq_true]
                intro hh
                rw [get_left hja] at hoj
                have := hcl j oj (by simpa using hoj) hh e he hb
                rw [hon] at this
                have h5 : listed.getD i true = true := by
                  rw [Array.getD_eq_getD_getElem?] at this ⊢
                  cases hq : listed[i]? with
                  | none => simp [hq] at this
                  | some b => simpa [hq] using this
                rw [hf] at h5; cases h5
              · have : j = A.length := by omega
                subst this
                rw [ho] at hoj; cases hoj
                have := hw e he hb
                rw [hon, gd_left (by omega)] at this
                have h5 : listed.getD i true = true := by
                  rw [Array.getD_eq_getD_getElem?] at this ⊢
                  cases hq : listed[i]? with
                  | none => simp [hq] at this
                  | some b => simpa [hq] using this
                rw [hf] at h5; cases h5
          exact hup _ i0 rfl hi0 hf0
    have hready' : ∀ i, i ∈ Region.ready .any A.toArray listed → i ∈ Region.ready .any (A ++ B).toArray (listed ++ Array.replicate B.length false) := by
      intro i hi
      obtain ⟨hun, o, ho, hw⟩ := mem_ready.1 hi
      have hia : i < A.length := by have := (Array.getElem?_eq_some_iff.1 ho).1; simpa using this
      refine mem_ready.2 ⟨by rw [gd_left (by omega)]; exact hun, o, by rw [get_left hia]; exact ho, fun e he hb => ?_⟩
      have hlo := hloc i hia o (by simpa using ho) e he hb
      rw [gd_left (by omega)]
      exact hw e he hb
    rw [show f + 1 + B.length = (f + B.length) + 1 by omega]
    refine ⟨fun hr => ?_, fun i hi => ?_⟩
    · obtain ⟨i, hi⟩ := hfirst
      have := hready' i hi
      rw [hr] at this
      cases this
    · have hiA := hready i hi
      have H2 := H.2 i hiA
      obtain ⟨hun, o, ho, hw⟩ := mem_ready.1 hiA
      have hia : i < A.length := by have := (Array.getElem?_eq_some_iff.1 ho).1; simpa using this
      have hoA : A[i]? = some o := by simpa using ho
      have hstep : ∀ a' w', wpAny P .any A.toArray (fun e a w => e = .normal ∧ AnyFrom P (A ++ B) Q A.length a w) f (listed.setIfInBounds i true) a' w' →
          wpAny P .any (A ++ B).toArray Q (f + B.length) ((listed ++ Array.replicate B.length false).setIfInBounds i true) a' w' := by
        intro a' w' hh
        have e1 : (listed ++ Array.replicate B.length false).setIfInBounds i true = listed.setIfInBounds i true ++ Array.replicate B.length false := by
          rw [Array.setIfInBounds_append_left (by omega)]
        rw [e1]
        refine ih _ a' w' (by simp [hsz]) (fun j oj hoj hl e he hb => ?_) ?_ hh
        · refine getD_set_true ?_
          by_cases hji : j = i
          · subst hji
            rw [hoA] at hoj; cases hoj
            exact hw e he hb
          · rw [getD_set_ne true (Ne.symm hji)] at hl
            exact hcl j oj hoj hl e he hb
        · have hc' : (List.range A.length).countP (fun j => !(listed.setIfInBounds i true).getD j true) + 1 = (List.range A.length).countP (fun j => !listed.getD j true) := by
            have hmem : i ∈ List.range A.length := by simpa using hia
            have hnd : (List.range A.length).Nodup := List.nodup_range
            generalize List.range A.length = L at hmem hnd
            clear hc H H2 hh ih
            induction L with
            | nil => cases hmem
            | cons x L ihL =>
              have hnd' := List.nodup_cons.1 hnd
              rw [List.countP_cons, List.countP_cons]
              rcases List.mem_cons.1 hmem with rfl | hm
              · have e2 : L.countP (fun j => !(listed.setIfInBounds i true).getD j true) = L.countP (fun j => !listed.getD j true) := by
                  refine List.countP_congr fun j hj => ?_
                  have hne : i ≠ j := fun e => hnd'.1 (by rw [e]; exact hj)
                  rw [getD_set_ne true hne]
                have e3 : (listed.setIfInBounds i true).getD i true = true := by simp [Array.getD_eq_getD_getElem?, hsz, hia]
                rw [e2, e3, hun]; simp
              · have hne : i ≠ x := fun e => hnd'.1 (by rw [← e]; exact hm)
                rw [getD_set_ne true hne]
                have := ihL hm hnd'.2
                omega
          omega
      unfold wpOp at H2 ⊢
      have hoAB : (A ++ B).toArray[i]? = some o := by rw [get_left hia]; exact ho
      simp only [ho, hoAB] at H2 ⊢
      have hy : Region.wanted o (yielded (A ++ B).toArray a.tmps) = Region.wanted o (yielded A.toArray a.tmps) := by
        have hg := List.all_eq_true.1 hgd o (List.mem_of_getElem? hoA)
        unfold Region.wanted
        cases hgu : o.guard with
        | none => rfl
        | some jb =>
          obtain ⟨j, b⟩ := jb
          simp only [hgu, Nat.blt_eq] at hg
          simp only [yielded, get_left (A := A) (B := B) hg]
      rw [hy]
      split
      · rename_i hwt
        rw [if_pos hwt] at H2
        exact upon_split hstep (fun e a w h => h.1) H2
      · rename_i hwt
        rw [if_neg hwt] at H2
        exact hstep _ _ H2
theorem reg_split {id : Nat} {ol hd tl : List Oper} {a : Act} {w : World} (m : Nat) (hm : P.follows .mixedOrders = true) (hs : splitB ol m = true) (h1 : hd ++ tl = ol) (h2 : hd.length = m)
    (h : RegAny P hd (fun e a w => e = .normal ∧ AnyFrom P ol Q m a w) a w) : (Code.region id ol.toArray true).wp P Q a w := by
  subst h1; subst h2
  refine reg_of_any hm ?_
  have := split_steps (P := P) (Q := Q) hs hd.length (Array.replicate hd.length false) a { w with drawn := w.drawn + 1 } (by simp) (fun j o hj hl => by
    have : j < hd.length := (List.getElem?_eq_some_iff.1 hj).1
    simp [Array.getD_eq_getD_getElem?, this] at hl) (by
    have : (List.range hd.length).countP (fun i => !(Array.replicate hd.length false).getD i true) = (List.range hd.length).length := by
      rw [List.countP_eq_length]
      intro i hi
      have hi' : i < hd.length := by simpa using hi
      simp [Array.getD_eq_getD_getElem?, hi']
    simpa using this) h
  unfold RegAny
  have e : Array.replicate (hd ++ tl).length false = Array.replicate hd.length false ++ Array.replicate tl.length false := by
    rw [List.length_append, Array.replicate_append_replicate]
  rw [e, List.length_append]
  exact this
theorem split_end {ol : List Oper} {m : Nat} {a : Act} {w : World} (h : AnyFrom P ol Q m a w) : (fun e a w => e = Exit.normal ∧ AnyFrom P ol Q m a w) .normal a w := ⟨rfl, h⟩
theorem reg_from {id : Nat} {ol : List Oper} {a : Act} {w : World} (hm : P.follows .mixedOrders = true) (h : ∀ w', w.grownBy w' none → AnyFrom P ol Q 0 a w') : (Code.region id ol.toArray true).wp P Q a w := by
  refine reg_of_any hm ?_
  have := h { w with drawn := w.drawn + 1 } ⟨rfl, rfl, rfl, Nat.le_refl _, fun _ _ _ => rfl⟩
  unfold AnyFrom at this
  unfold RegAny
  simpa using this
end
section
variable {P : Program} {ol : List Oper} {Q : Exit → Act → World → Prop} {Φ : Nat → Nat → Value → Value → World → Prop} {C : Nat → Value → World → Prop} {ch : Chain} {v0 : Value} {a0 : Act} {N : Nat}
end
section
variable {P : Program} {ol : List Oper} {Q : Exit → Act → World → Prop} {Φ : Nat → Value → World → Prop} {a0 : Act} {N : Nat} {l : List (Nat × Value)} {w : World}
theorem any_quiet (hlex : lexB' ol = true) (hdn : dstNB ol N = true) (hdst : dstsB ol = true) (hN : a0.tmps.size = N)
    (hΦ : ∀ j u w1 w2, w1.grownBy w2 none → Φ j u w1 → Φ j u w2)
    (obN : ∀ i o, ol[i]? = some o → ObN P ol Φ (putsL a0 l) N w (fun w1 w2 => w1.grownBy w2 none) i o)
    (fin : ∀ a' w', a'.tmps.size = N → a'.defers = a0.defers → (∀ t, (ol.all fun o => o.dst != some t) = true → a'.tmps.getD t undef = (putsL a0 l).tmps.getD t undef) →
      (∀ j oj d, ol[j]? = some oj → oj.dst = some d → Φ j (a'.tmps.getD d undef) w') → w.grownBy w' none → Q .normal (putsL a' []) w') : RegAny P ol Q (putsL a0 l) w := by
  have hd : w.grownBy { w with drawn := w.drawn + 1 } none := ⟨rfl, rfl, rfl, Nat.le_refl _, fun _ _ _ => rfl⟩
  have I : RInv ol Φ (fun _ _ _ => True) (noChain N) (putsL a0 l) N w (fun w1 w2 => w1.grownBy w2 none) (Array.replicate ol.length false) 0 (putsL a0 l) { w with drawn := w.drawn + 1 } := by
    refine ⟨slN hN, rfl, fun _ _ => rfl, fun j o d hj hl => ?_, fun j o hj hl => ?_, by simp, Nat.zero_le _, fun m i hm => by simp [noChain] at hm, trivial, hd⟩
    · have : j < ol.length := (List.getElem?_eq_some_iff.1 hj).1
      simp [Array.getD_eq_getD_getElem?, this] at hl
    · have : j < ol.length := (List.getElem?_eq_some_iff.1 hj).1
      simp [Array.getD_eq_getD_getElem?, this] at hl
  exact region_any_steps (P := P) (Q := Q) (Φ := Φ) (R := fun w1 w2 => w1.grownBy w2 none) (C := fun _ _ _ => True) (ch := noChain N) hlex hdn hdst (noChain_ok hdn) w (fun _ _ _ => grown_trans) (fun _ _ h => h) hΦ (fun _ _ _ _ _ h => h) (fun i o hi _ => obN i o hi) (fun c i o hc _ => by simp [noChain] at hc) (fun a' w' J => fin a' w' J.size (by rw [J.defers, putsL_defers]) (fun t ht => J.base t fun j o hj _ hd => by
      have := List.all_eq_true.1 ht o (List.mem_of_getElem? hj)
      simp [hd] at this) (fun j oj d hj hd => J.phi j oj d hj (by
        have : j < ol.length := (List.getElem?_eq_some_iff.1 hj).1
        simp [Array.getD_eq_getD_getElem?, this]) hd) J.rel) ol.length (Array.replicate ol.length false) 0 _ _ I (Nat.le_trans (List.countP_le_length) (by simp))
end
end Go.Gx

/- Small laws for walks, the twenty-first part: a region told part by part: single operations, and blocks in any order that leave the world as it is. -/
namespace Go.Gx
open Go.RowKit
def blockB (ol : List Oper) : Nat → Nat → Array Bool → Bool
  | 0, _, _ => true
  | n + 1, k, listed => (Region.ready .any ol.toArray listed).contains k && Region.free .any ol.toArray listed k && blockB ol n (k + 1) (listed.setIfInBounds k true)
def stillB (ol : List Oper) (k n : Nat) : Bool :=
  Region.noSelect ol.toArray && lexB' ol && Nat.ble (k + n) ol.length && (restB ol (k + n) || Nat.beq (k + n) ol.length) && blockB ol n k (Array.replicate k true ++ Array.replicate (ol.length - k) false)
def oneB (ol : List Oper) (k : Nat) : Bool := Nat.blt k ol.length && decide (Region.ready .any ol.toArray (Array.replicate k true ++ Array.replicate (ol.length - k) false) = [k])
section
variable {P : Program} {Q : Exit → Act → World → Prop} {ol : List Oper} {w : World}
theorem listed_set {k N : Nat} (h : k < N) : (Array.replicate k true ++ Array.replicate (N - k) false).setIfInBounds k true = Array.replicate (k + 1) true ++ Array.replicate (N - (k + 1)) false := by
  apply Array.ext
  · simp; omega
  · intro i h1 h2
    have h1' : i < (Array.replicate k true ++ Array.replicate (N - k) false).size := by simpa using h1
    rw [Array.getElem_setIfInBounds h1']
    by_cases hi : k = i
    · subst hi; rw [if_pos rfl, Array.getElem_append_left (by simp)]; simp
    · rw [if_neg hi]
      rcases Nat.lt_or_ge i k with h3 | h3
      · rw [Array.getElem_append_left (by simpa using h3), Array.getElem_append_left (by simp; omega)]; simp
      · rw [Array.getElem_append_right (by simpa using h3), Array.getElem_append_right (by simp; omega)]; simp
theorem from_end {a : Act} (h : Q .normal a w) {k : Nat} (hk : ol.length = k) : AnyFrom P ol Q k a w := by
  subst hk
  unfold AnyFrom
  rw [Nat.sub_self]
  refine ⟨?_, h⟩
  rw [List.eq_nil_iff_forall_not_mem]
  intro i hi
  obtain ⟨h1, o, ho, _⟩ := mem_ready.1 hi
  have hl : i < ol.length := by simpa using (Array.getElem?_eq_some_iff.1 ho).1
  simp [Array.getD_eq_getD_getElem?, hl] at h1
theorem from_one {a : Act} {k k' : Nat} {o : Oper} (hB : oneB ol k = true) (hk' : k + 1 = k') (ho : ol[k]? = some o) (h : wpList P ol.toArray (fun e a' w' => e = .normal ∧ AnyFrom P ol Q k' a' w') [o] a w) : AnyFrom P ol Q k a w := by
  subst hk'
  simp only [oneB, Bool.and_eq_true, Nat.blt_eq, decide_eq_true_eq] at hB
  obtain ⟨hk, hr⟩ := hB
  unfold AnyFrom
  obtain ⟨f, hf⟩ : ∃ f, ol.length - k = f + 1 := ⟨ol.length - k - 1, by omega⟩
  have e1 : ol.length - (k + 1) = f := by omega
  have key : wpAny P .any ol.toArray Q (f + 1) (Array.replicate k true ++ Array.replicate (ol.length - k) false) a w := by
    refine ⟨fun h0 => (by rw [hr] at h0; cases h0), fun i hi => ?_⟩
    rw [hr] at hi
    have : i = k := by simpa using hi
    subst this
    refine wp_one (by simpa using ho) h fun a' w' hh => ?_
    rw [listed_set hk]
    unfold AnyFrom at hh
    rw [e1] at hh ⊢
    exact hh
  have e2 : ∀ g, g = f + 1 → wpAny P .any ol.toArray Q g (Array.replicate k true ++ Array.replicate (ol.length - k) false) a w := fun g hg => by subst hg; exact key
  exact e2 _ hf
theorem from_next {a : Act} {k : Nat} (h : AnyFrom P ol Q k a w) : wpList P ol.toArray (fun e a' w' => e = .normal ∧ AnyFrom P ol Q k a' w') [] a w := ⟨rfl, h⟩
theorem from_seq {a : Act} {k : Nat} {tl : List Oper} (hk : k < ol.length) (hB : Region.seqB .any ol.toArray (ol.length - k) k (Array.replicate k true ++ Array.replicate (ol.length - k) false) = true) (h1 : ol.drop k = tl) (h : wpList P ol.toArray Q tl a w) : AnyFrom P ol Q k a w := by
  subst h1
  have hl : (ol.drop k).length = ol.length - k := by simp
  have := wpAny_of_seq (md := .any) (Q' := Q) (P := P) (ops := ol.toArray) (ol.drop k) k _ a w (fun j => by simp) (by rw [hl]; exact hB) h
  rw [hl] at this
  exact this
theorem rest_waits {m : Nat} {listed : Array Bool} (hr : restB ol m = true) (inv : HeadInv .any ol.toArray m listed) : ∀ (d i : Nat), m - i = d → i < m → listed.getD i true = false → ∀ t, m ≤ t → t ∉ Region.ready .any ol.toArray listed := by
  simp only [restB, Bool.and_eq_true] at hr
  obtain ⟨hs, hc⟩ := hr
  intro d
  induction d using Nat.strongRecOn with
  | _ d ih =>
    intro i hd hi hun t ht htr
    obtain ⟨_, ot, hot, hall⟩ := mem_ready.1 htr
    have htl : t < ol.length := by simpa using (Array.getElem?_eq_some_iff.1 hot).1
    rcases Nat.lt_or_ge m t with h1 | h1
    · have h2 := List.all_eq_true.1 hc t (List.mem_range.2 htl)
      simp only [Bool.or_eq_true, decide_eq_true_eq] at h2
      obtain ⟨s, hs1, hs2⟩ := List.any_eq_true.1 (h2.resolve_left (by omega))
      simp only [Bool.and_eq_true, decide_eq_true_eq] at hs2
      obtain ⟨o', ho', e, he, hb, hon⟩ := Region.waitsFor_spec hs2.2
      rw [hot] at ho'; cases ho'
      have h3 := hall e he hb
      rw [hon, getD_both (inv.tail s hs2.1 (by simpa using List.mem_range.1 hs1))] at h3
      cases h3
    · have : t = m := by omega
      subst this
      obtain ⟨j, hj, hj2⟩ := List.any_eq_true.1 (List.all_eq_true.1 hs i (List.mem_range.2 hi))
      simp only [Bool.and_eq_true, decide_eq_true_eq] at hj2
      obtain ⟨oj, hoj, e, he, hb, hon⟩ := Region.waitsFor_spec hj2.2
      have hjle := List.mem_range.1 hj
      by_cases hjt : j = t
      · subst hjt
        rw [hot] at hoj; cases hoj
        have h3 := hall e he hb
        rw [hon, getD_both hun] at h3
        cases h3
      · cases hl : listed.getD j false with
        | true =>
          have h3 := inv.closed j oj hoj hl e he hb
          rw [hon, getD_both hun] at h3
          cases h3
        | false => exact ih (t - j) (by omega) j rfl (by omega) (getD_in (by rw [inv.size]; simp; omega) hl) t (Nat.le_refl _) htr
theorem block_first {m i : Nat} {oi : Oper} {v : Value} {L : Array Bool → Act → Prop} (hi : ol.toArray[i]? = some oi) (hsel : ∀ (j : Nat) (o : Oper) cs b, ol.toArray[j]? = some o → o.op ≠ .select cs b)
    (hns : ∀ listed, HeadInv .any ol.toArray m listed → listed.getD i true = false → ∀ t, m ≤ t → t ∉ Region.ready .any ol.toArray listed) (hin : i < m) (hdone : ∀ listed a, L listed a → ∀ j ∈ Region.ready .any ol.toArray listed, m ≤ j) :
    ∀ (f : Nat) (listed : Array Bool) (a : Act), HeadInv .any ol.toArray m listed →
      (∀ j oj, ol.toArray[j]? = some oj → j ≠ i → listed.getD j true = false → (∀ e ∈ oj.after, Region.binds .any e = true → e.on ≠ i) → oi.apart ol.toArray oj = true) →
      i ∈ Region.ready .any ol.toArray listed → YieldsAt P ol.toArray w oi v a → wpAnyL P .any ol.toArray w m L f (listed.setIfInBounds i true) (a.put oi.dst v) → wpAnyL P .any ol.toArray w m L (f + 1) listed a := by
  intro f
  induction f with
  | zero =>
    intro listed a inv _ hr hy H
    have hun := (mem_ready.1 hr).1
    refine ⟨fun h => (by rw [h] at hr; cases hr), fun j hj => ?_⟩
    have hjm : j < m := Nat.lt_of_not_le fun h => hns listed inv hun j h hj
    refine ⟨hjm, ?_⟩
    by_cases hji : j = i
    · rw [hji]; exact hy.stOp hi H
    · exact absurd (hdone _ _ H j (ready_mono hj hji)) (by omega)
  | succ f ih =>
    intro listed a inv hfree hr hy H
    have hun := (mem_ready.1 hr).1
    refine ⟨fun h => (by rw [h] at hr; cases hr), fun j hj => ?_⟩
    have hjm : j < m := Nat.lt_of_not_le fun h => hns listed inv hun j h hj
    refine ⟨hjm, ?_⟩
    by_cases hji : j = i
    · rw [hji]; exact hy.stOp hi H
    · obtain ⟨hjun, oj, hoj, hall⟩ := mem_ready.1 hj
      have hap := hfree j oj hoj hji hjun fun e he hb heq => by
        have h9 := hall e he hb
        rw [heq, getD_both hun] at h9
        cases h9
      have h2 := stOp_put hoj hap (fun cs b => hsel i oi cs b hi) (fun cs b => hsel j oj cs b hoj) hy (H.2 j (ready_mono hj hji)).2
      refine stOp_mono (fun a' h3 => ih (listed.setIfInBounds j true) a' (inv.set hj hjm) (fun k ok hk hki huk hno => hfree k ok hk hki ?_ hno) (ready_mono hr (Ne.symm hji)) h3.1 ?_) h2
      · by_cases hjk : j = k
        · rw [← hjk]; exact hjun
        · rwa [getD_set_ne true hjk] at huk
      · rw [Array.setIfInBounds_comm _ _ hji]
        exact h3.2
theorem block_lex {m N : Nat} (hN : ol.length = N) (hsel : ∀ (j : Nat) (o : Oper) cs b, ol.toArray[j]? = some o → o.op ≠ .select cs b) (hns : ∀ i listed, i < m → HeadInv .any ol.toArray m listed → listed.getD i true = false → ∀ t, m ≤ t → t ∉ Region.ready .any ol.toArray listed)
    {K : Act → Prop} {L : Array Bool → Act → Prop} (hdone : ∀ listed a, L listed a → ∀ j ∈ Region.ready .any ol.toArray listed, m ≤ j) (hL : ∀ a, K a → L (Array.replicate m true ++ Array.replicate (N - m) false) a) (hmN : m ≤ N) :
    ∀ (l : List Oper) (k : Nat) (a : Act), (∀ j, j < l.length → l[j]? = ol[k + j]?) → k + l.length = m → HeadInv .any ol.toArray m (Array.replicate k true ++ Array.replicate (N - k) false) →
      blockB ol l.length k (Array.replicate k true ++ Array.replicate (N - k) false) = true → wpStill P ol.toArray w K l a → wpAnyL P .any ol.toArray w m L l.length (Array.replicate k true ++ Array.replicate (N - k) false) a
  | [], k, a, _, hk, _, _, h => by
    have : k = m := by simpa using hk
    subst this
    exact hL a h
  | o :: l, k, a, hl, hk, inv, hB, h => by
    have hkm : k < m := by simp only [List.length_cons] at hk; omega
    have h0 : ol.toArray[k]? = some o := by have := (hl 0 (by simp)).symm; simpa using this
    simp only [List.length_cons, blockB, Bool.and_eq_true] at hB
    obtain ⟨⟨hr, hf⟩, hB'⟩ := hB
    have hr' : k ∈ Region.ready .any ol.toArray (Array.replicate k true ++ Array.replicate (N - k) false) := by simpa using hr
    have hst : stOp P ol.toArray w k (wpStill P ol.toArray w K l) a := by unfold stOp; simp only [h0]; exact h
    obtain ⟨v, hy, hK⟩ := yieldsAt_of_stOp h0 hst
    have e := listed_set (k := k) (N := N) (by omega)
    rw [e] at hB'
    have inv' := inv.set hr' hkm
    rw [e] at inv'
    refine block_first h0 hsel (fun listed iv hu => hns k listed hkm iv hu) hkm hdone l.length _ a inv (Region.free_spec h0 hf) hr' hy ?_
    rw [e]
    exact block_lex hN hsel hns hdone hL hmN l (k + 1) _ (fun j hj => by have := hl (j + 1) (by simp; omega); simpa [Nat.add_assoc, Nat.add_comm 1 j] using this) (by simp only [List.length_cons] at hk; omega) inv' hB' hK
theorem from_still {a : Act} {k m : Nat} (n : Nat) {hd : List Oper} (hB : stillB ol k n = true) (hk' : k + n = m) (h1 : (ol.drop k).take n = hd) (h : wpStill P ol.toArray w (fun a' => AnyFrom P ol Q m a' w) hd a) : AnyFrom P ol Q k a w := by
  subst hk'
  simp only [stillB, Bool.and_eq_true, Nat.ble_eq, Bool.or_eq_true] at hB
  obtain ⟨⟨⟨⟨hsel, hlex⟩, hkn⟩, hrest⟩, hblk⟩ := hB
  have hlen : hd.length = n := by rw [← h1]; simp; omega
  have hidx : ∀ j, j < hd.length → hd[j]? = ol[k + j]? := fun j hj => by
    rw [← h1, List.getElem?_take, if_pos (by omega), List.getElem?_drop]
  have inv : HeadInv .any ol.toArray (k + n) (Array.replicate k true ++ Array.replicate (ol.length - k) false) := by
    refine ⟨by simp; omega, fun j oj hoj hl e he hb => ?_, fun t ht htl => ?_⟩
    · have hjl : j < ol.length := by simpa using (Array.getElem?_eq_some_iff.1 hoj).1
      have hjk : j < k := by
        rcases Nat.lt_or_ge j k with h3 | h3
        · exact h3
        · rw [gd_right (by simpa using h3)] at hl; cases hl
      have h4 := List.all_eq_true.1 hlex j (by simpa using hjl)
      have hoj' : ol[j]? = some oj := by simpa using hoj
      simp only [hoj', Array.all_eq_true_iff_forall_mem, Bool.or_eq_true, Bool.not_eq_true', Nat.blt_eq] at h4
      have h5 := (h4 e he).resolve_left (by simp [hb])
      rw [gd_left (by simp; omega)]
      simp [Array.getD_eq_getD_getElem?, show e.on < k by omega]
    · have htl' : t < ol.length := by simpa using htl
      rw [Array.getD_eq_getD_getElem?, Array.getElem?_append_right (by simp; omega)]
      simp [show t - k < ol.length - k by omega]
  have hns : ∀ i listed, i < k + n → HeadInv .any ol.toArray (k + n) listed → listed.getD i true = false → ∀ t, k + n ≤ t → t ∉ Region.ready .any ol.toArray listed := by
    intro i listed hi iv hu t ht htr
    rcases hrest with hr | he
    · exact rest_waits hr iv _ i rfl hi hu t ht htr
    · obtain ⟨_, ot, hot, _⟩ := mem_ready.1 htr
      have h6 : t < ol.length := by simpa using (Array.getElem?_eq_some_iff.1 hot).1
      have := Nat.eq_of_beq_eq_true he
      omega
  have H := block_lex (P := P) (w := w) (K := fun a' => AnyFrom P ol Q (k + n) a' w) (L := fun listed' a' => listed' = Array.replicate (k + n) true ++ Array.replicate (ol.length - (k + n)) false ∧ AnyFrom P ol Q (k + n) a' w) rfl (Region.noSelect_spec hsel) hns
    (fun listed a' hh j hj => by
      obtain ⟨rfl, _⟩ := hh
      obtain ⟨hju, oj, hoj, _⟩ := mem_ready.1 hj
      rcases Nat.lt_or_ge j (k + n) with h7 | h7
      · rw [gd_left (by simpa using h7)] at hju
        simp [Array.getD_eq_getD_getElem?, h7] at hju
      · exact h7) (fun a' hh => ⟨rfl, hh⟩) hkn hd k a hidx (by omega) inv (by rw [hlen]; exact hblk) h
  have := wpAny_of_head (P := P) (md := .any) (w := w) (Q' := Q) (g := ol.length - (k + n)) (fun listed a' hh => by obtain ⟨rfl, hh⟩ := hh; exact hh) _ _ _ H
  unfold AnyFrom
  rw [hlen, show n + (ol.length - (k + n)) = ol.length - k by omega] at this
  exact this
end
end Go.Gx

/- Small laws for walks, the twenty-second part: pointers held against nil, rows cut behind a place and copied into. -/
namespace Go.Gx
open Go.RowKit
section
variable {P : Program} {Q : Exit → Act → World → Prop} {a : Act} {w w' : World} {l : List (Nat × Value)} {ops : Array Oper} {rest : List Oper}
variable {d ty t e xt yt : Nat} {p : String} {af : Array Edge} {x y : Operand} {v : Value} {k : IntKind} {n base sz by_ b off : Nat} {cs ws : List Value} {zv : Value} {r : Int}
theorem run_peq (q : Option Addr) (ht : P.underlying xt = some (.pointer (P.pointee xt))) (hx : (putsL a l).eval x = .pointer q) (hy : (putsL a l).eval y = .pointer none) :
    (execOp (putsL a l).eval (⟨some d, .binOp .eql xt x y yt, ty, p, af, none⟩ : Oper)).run P w = .ok (.value (.bool q.isNone)) w := by
  have h1 := run_eql_pointer_nil (P := P) (w := w) xt q ht
  have hg : (eqGuard .eql xt x y (Value.pointer q) (Value.pointer none)).run P w = .ok () w := by simp [eqGuard]
  simp only [execOp, hx, hy]
  simp [h1, hg]
theorem op_peq_some (ht : P.underlying xt = some (.pointer (P.pointee xt))) (hx : (putsL a l).eval x = ptr b off) (hy : (putsL a l).eval y = .pointer none) (h : wpList P ops Q rest (putsL a ((d, .bool false) :: l)) w) :
    wpList P ops Q (⟨some d, .binOp .eql xt x y yt, ty, p, af, none⟩ :: rest) (putsL a l) w := op_gen rfl (run_peq (some ⟨b, off, none⟩) ht hx hy) h
theorem op_peq_none (ht : P.underlying xt = some (.pointer (P.pointee xt))) (hx : (putsL a l).eval x = .pointer none) (hy : (putsL a l).eval y = .pointer none) (h : wpList P ops Q rest (putsL a ((d, .bool true) :: l)) w) :
    wpList P ops Q (⟨some d, .binOp .eql xt x y yt, ty, p, af, none⟩ :: rest) (putsL a l) w := op_gen rfl (run_peq none ht hx hy) h
end
end Go.Gx

/- Small laws for walks, the thirty-fourth part: pointers that are not nil. -/
namespace Go.Gx
open Go.RowKit
section
variable {P : Program} {Q : Exit → Act → World → Prop} {a : Act} {w w' : World} {l : List (Nat × Value)} {ops : Array Oper} {rest : List Oper}
variable {d ty t e xt yt : Nat} {p : String} {af : Array Edge} {x y : Operand} {b off : Nat}
theorem run_pne (q : Option Addr) (ht : P.underlying xt = some (.pointer (P.pointee xt))) (hx : (putsL a l).eval x = .pointer q) (hy : (putsL a l).eval y = .pointer none) :
    (execOp (putsL a l).eval (⟨some d, .binOp .neq xt x y yt, ty, p, af, none⟩ : Oper)).run P w = .ok (.value (.bool !q.isNone)) w := by
  have h2 := run_neq_pointer_nil (P := P) (w := w) xt q ht
  have hg : (eqGuard .neq xt x y (Value.pointer q) (Value.pointer none)).run P w = .ok () w := by simp [eqGuard]
  simp only [execOp, hx, hy]
  simp [h2, hg]
theorem op_pne_some (ht : P.underlying xt = some (.pointer (P.pointee xt))) (hx : (putsL a l).eval x = ptr b off) (hy : (putsL a l).eval y = .pointer none) (h : wpList P ops Q rest (putsL a ((d, .bool true) :: l)) w) :
    wpList P ops Q (⟨some d, .binOp .neq xt x y yt, ty, p, af, none⟩ :: rest) (putsL a l) w := op_gen rfl (run_pne (some ⟨b, off, none⟩) ht hx hy) h
theorem op_pne_none (ht : P.underlying xt = some (.pointer (P.pointee xt))) (hx : (putsL a l).eval x = .pointer none) (hy : (putsL a l).eval y = .pointer none) (h : wpList P ops Q rest (putsL a ((d, .bool false) :: l)) w) :
    wpList P ops Q (⟨some d, .binOp .neq xt x y yt, ty, p, af, none⟩ :: rest) (putsL a l) w := op_gen rfl (run_pne none ht hx hy) h
end
end Go.Gx

/- Small laws for walks, the twenty-third part: an object of one box and a row of its own; what an operation on it may change. -/
namespace Go.Gx
open Go.RowKit
section
variable {w w' w0 : World} {b p t tp e base base2 e2 sz sz2 n n2 k0 L B : Nat} {v u x vb : Value} {cs ws : List Value} {row : Option Nat}
def pgRow (p n : Nat) (vb : Value) : Option Nat := if n = 0 then some p else vb.ownBlock
def RowOr (u : Value) (row : Option Nat) (k0 : Nat) : Prop := u.ownBlock = row ∨ ∀ k, u.ownBlock = some k → k0 ≤ k
theorem RowOr.apart (hr : RowOr u row k0) (ha : ∀ k, row = some k → k < L ∨ B ≤ k) (hB : B ≤ k0) : ∀ k, u.ownBlock = some k → k < L ∨ B ≤ k := by
  intro k hk
  rcases hr with hr | hr
  · rw [hr] at hk; exact ha k hk
  · have := hr k hk; omega
theorem pgRow_some {k : Nat} (h : pgRow p n vb = some k) : k = p ∨ vb.ownBlock = some k := by
  unfold pgRow at h; split at h
  · exact .inl (Option.some.inj h).symm
  · exact .inr h
theorem Bx.ne {ws : List Value} (h : Bx w b t cs) (h2 : Bx w p tp ws) (hne : t ≠ tp) : b ≠ p := by
  rintro rfl
  have := h.symm.trans h2
  simp at this
  exact hne this.2
theorem RowOr.ne (hr : RowOr u (pgRow p n vb) k0) (hn : vb.ownBlock ≠ some b) (hp : b ≠ p) (hb : b < k0) : u.ownBlock ≠ some b := by
  intro hh
  rcases hr with hr | hr
  · rw [hr] at hh
    rcases pgRow_some hh with q | q
    · exact hp q
    · exact hn q
  · have := hr b hh; omega
theorem dj_nil (x : Value) : DJ x (.slice none 0 0) := fun _ _ hg => (by cases hg)
structure IsSl (u : Value) : Prop where sl : ∃ ad n c, u = .slice ad n c
end
end Go.Gx

/- Small laws for walks, the twenty-fourth part: lists that may be nil held against nil; a list of one's own with room behind it. -/
namespace Go.Gx
open Go.RowKit
section
variable {P : Program} {Q : Exit → Act → World → Prop} {a : Act} {w w' : World} {l : List (Nat × Value)} {ops : Array Oper} {rest : List Oper}
variable {d ty t e xt yt : Nat} {p : String} {af : Array Edge} {x y : Operand} {v u : Value} {n base sz b c : Nat} {cs : List Value} {r : List UInt8}
def NO (v : Value) (r : List UInt8) : Prop := (v = .slice none 0 0 ∧ r = []) ∨ ((∃ a n c, v = .slice (some a) n c) ∧ r ≠ [])
theorem NO.none : NO (.slice none 0 0) [] := .inl ⟨rfl, rfl⟩
theorem Own.no (O : Own w base e sz v n cs) (hr : r ≠ []) (hn : 0 < n) : NO v r := by
  rcases O.2 with ⟨_, rfl⟩ | ⟨g, off, cap, cur, fr, rfl, _⟩
  · omega
  · exact .inr ⟨⟨_, _, _, rfl⟩, hr⟩
def hiV (v : Value) (m : Nat) : Value := match v with | .slice ad _ c => .slice ad m c | x => x
theorem Own.hi {e2 m : Nat} (O : Own w base e2 sz v n cs) (hm : m ≤ n) : Own w base e2 sz (hiV v m) m (cs.take (m * sz)) := by
  have hle : m * sz ≤ n * sz := Nat.mul_le_mul_right _ hm
  obtain ⟨hl, ⟨rfl, rfl⟩ | ⟨g, off, cap, cur, fr, rfl, hb, hg, hf, hnc, hcm, hfit, htk⟩⟩ := O
  · have : m = 0 := by omega
    subst this
    exact ⟨by simp, .inl ⟨rfl, rfl⟩⟩
  · refine ⟨by simp; omega, .inr ⟨g, off, cap, cur, fr, rfl, hb, hg, hf, by omega, hcm, hfit, ?_⟩⟩
    rw [← htk, List.take_take, Nat.min_eq_left hle]
structure RowP (p n : Nat) (u : Value) (row : Option Nat) (k0 : Nat) : Prop where
  ro : RowOr u row k0
  pr : pgRow p n u = row ∨ ∀ k, pgRow p n u = some k → k0 ≤ k
theorem RowP.laid {p n k0 : Nat} {u : Value} {row : Option Nat} (hn : n ≠ 0) (h : RowOr u row k0) : RowP p n u row k0 := by
  refine ⟨h, ?_⟩
  unfold pgRow; rw [if_neg hn]; exact h
theorem RowP.trans {p n1 n2 k0 k1 : Nat} {u1 u2 : Value} {row : Option Nat} (h2 : RowP p n2 u2 (pgRow p n1 u1) k1) (h1 : RowP p n1 u1 row k0) (hk : k0 ≤ k1) : RowP p n2 u2 row k0 := by
  refine ⟨?_, ?_⟩
  · rcases h2.ro with q | q
    · rcases h1.pr with r | r
      · exact .inl (q.trans r)
      · exact .inr fun k hh => r k (q ▸ hh)
    · exact .inr fun k hh => Nat.le_trans hk (q k hh)
  · rcases h2.pr with q | q
    · rcases h1.pr with r | r
      · exact .inl (q.trans r)
      · exact .inr fun k hh => r k (q ▸ hh)
    · exact .inr fun k hh => Nat.le_trans hk (q k hh)
end
end Go.Gx

/- Small laws for walks, the twenty-fifth part: a region whose order is open, with calls that change the world one after the other and light operations beside them. -/
namespace Go.Gx
open Go.RowKit
section
variable {P : Program} {ol : List Oper} {Q : Exit → Act → World → Prop} {Φ : Nat → Value → Prop} {G : World → Prop} {a0 : Act} {N : Nat}
def KL (P : Program) (ol : List Oper) (Φ : Nat → Value → Prop) (G : World → Prop) (a0 : Act) (N : Nat) (Q : Exit → Act → World → Prop) : List Nat → World → Prop
  | [], w => ∀ w1, w.grownBy w1 none → ∀ a', a'.tmps.size = N → a'.defers = a0.defers → (∀ t, (ol.all fun o => o.dst != some t) = true → a'.tmps.getD t undef = a0.tmps.getD t undef) →
      (∀ j oj d, ol[j]? = some oj → oj.dst = some d → Φ j (a'.tmps.getD d undef)) → Q .normal (putsL a' []) w1
  | i :: r, w => ∀ w1, w.grownBy w1 none → G w1 → ∀ a, a.tmps.size = N → (∀ t, safeB ol i t = true → a.tmps.getD t undef = a0.tmps.getD t undef) → (∀ j oj d, depB ol i j = true → ol[j]? = some oj → oj.dst = some d → Φ j (a.tmps.getD d undef)) →
      ∀ o, ol[i]? = some o → wpList P ol.toArray (fun e a' w' => e = .normal ∧ ((o.dst = none ∧ a' = a) ∨ ∃ d v, o.dst = some d ∧ a' = putsL a [(d, v)] ∧ Φ i v) ∧ (KL P ol Φ G a0 N Q r w' ∧ G w') ∧ True) [o] (putsL a []) w1
theorem KL.stable : ∀ {ops : List Nat} {w w2 : World}, KL P ol Φ G a0 N Q ops w → w.grownBy w2 none → KL P ol Φ G a0 N Q ops w2
  | [], _, _, h, E => fun w1 E1 => h w1 (grown_trans E E1)
  | _ :: _, _, _, h, E => fun w1 E1 => h w1 (grown_trans E E1)
def ObG (P : Program) (ol : List Oper) (Φ : Nat → Value → Prop) (G : World → Prop) (a0 : Act) (N : Nat) (i : Nat) (o : Oper) : Prop :=
  ∀ (a : Act) (w : World), a.tmps.size = N → G w → (∀ t, safeB ol i t = true → a.tmps.getD t undef = a0.tmps.getD t undef) → (∀ j oj d, depB ol i j = true → ol[j]? = some oj → oj.dst = some d → Φ j (a.tmps.getD d undef)) →
    wpList P ol.toArray (fun e a' w' => e = .normal ∧ (∃ d v, o.dst = some d ∧ a' = putsL a [(d, v)] ∧ Φ i v) ∧ w.grownBy w' none) [o] (putsL a []) w
end
section
variable {P : Program} {ol : List Oper} {Φ : Nat → Value → Prop} {G : World → Prop} {a0 : Act} {N : Nat} {ops : List Nat}
def ObGs (P : Program) (ol : List Oper) (Φ : Nat → Value → Prop) (G : World → Prop) (a0 : Act) (N : Nat) (ops : List Nat) : Nat → List Oper → Prop
  | _, [] => True
  | i, o :: r => (ops.contains i = false → ObG P ol Φ G a0 N i o) ∧ ObGs P ol Φ G a0 N ops (i + 1) r
theorem ObGs.nil {i : Nat} : ObGs P ol Φ G a0 N ops i [] := trivial
theorem ObGs.cons {i : Nat} {o : Oper} {r : List Oper} (h : ObG P ol Φ G a0 N i o) (h' : ObGs P ol Φ G a0 N ops (i + 1) r) : ObGs P ol Φ G a0 N ops i (o :: r) := ⟨fun _ => h, h'⟩
theorem ObGs.pass {i : Nat} {o : Oper} {r : List Oper} (hh : ops.contains i = true) (h' : ObGs P ol Φ G a0 N ops (i + 1) r) : ObGs P ol Φ G a0 N ops i (o :: r) := ⟨fun h => absurd (hh.symm.trans h) (by decide), h'⟩
theorem ObGs.getx : ∀ {l : List Oper} {i : Nat}, ObGs P ol Φ G a0 N ops i l → ∀ j o, l[j]? = some o → ops.contains (i + j) = false → ObG P ol Φ G a0 N (i + j) o
  | [], _, _, j, o, h, _ => by simp at h
  | o' :: r, i, h, 0, o, hj, hs => by simp at hj; subst hj; exact h.1 hs
  | o' :: r, i, h, j + 1, o, hj, hs => by
    have := ObGs.getx h.2 j o (by simpa using hj) (by rwa [show i + 1 + j = i + (j + 1) by omega])
    rwa [show i + 1 + j = i + (j + 1) by omega] at this
theorem ObGs.get {l : List Oper} (h : ObGs P ol Φ G a0 N ops 0 l) : ∀ j o, l[j]? = some o → ops.contains j = false → ObG P ol Φ G a0 N j o := fun j o hj hs => by
  have := ObGs.getx h j o hj (by rwa [Nat.zero_add])
  rwa [Nat.zero_add] at this
def phiV (L : List (Value → Prop)) : Nat → Value → Prop := fun j u => (L.getD j (fun _ => True)) u
end
end Go.Gx

/- Small laws for walks, the twenty-sixth part: channels in one goroutine: sends, receives, selects of one case with a default, len and cap: no condition beyond those each law states. -/
namespace Go.Gx
open Go.RowKit Go.Conc

section
variable {P : Program} {ops : Array Oper} {Q : Exit → Act → World → Prop} {a : Act} {w w1 w2 : World} {o : Oper} {i : Nat} {r : List Nat} {v : Value}

end

/-! ### the operations ahead of the last one -/
section
variable {P : Program} {ops : Array Oper} {Q : Exit → Act → World → Prop}
end

/-! ### the channel's block -/
def ChC (w : World) (c cap : Nat) (buf : List Value) : Prop := ∃ s r, w.heap[c]? = some (.chan cap buf.toArray false s r false)
section
variable {P : Program} {w w' : World} {row : Option Nat} {b t c cap base e sz n L B : Nat} {cs buf buf' : List Value} {v : Value}
theorem ChC.lt (h : ChC w c cap buf) : c < w.heap.size := by obtain ⟨s, r, h⟩ := h; exact (Array.getElem?_eq_some_iff.1 h).1
theorem ChC.keep (h : ChC w c cap buf) (E : w.grownBy w' row) (hne : some c ≠ row) : ChC w' c cap buf := by
  have hl := h.lt; obtain ⟨s, r, h⟩ := h; exact ⟨s, r, (E.block c hl hne).trans h⟩
theorem ChC.keep0 (h : ChC w c cap buf) (E : w.grownBy w' none) : ChC w' c cap buf := h.keep E (by simp)
theorem Own.notCh (O : Own w base e sz v n cs) (h : ChC w c cap buf) : v.ownBlock ≠ some c := by
  obtain ⟨s, r, h⟩ := h
  rcases O.2 with ⟨rfl, _⟩ | ⟨g, off, cp, cur, fr, rfl, _, hg, _⟩
  · simp [Value.ownBlock]
  · intro hh; simp [Value.ownBlock] at hh; subst hh; rw [hg] at h; simp at h
theorem Bx.notCh (B : Bx w b t cs) (h : ChC w c cap buf) : b ≠ c := by
  rintro rfl; obtain ⟨s, r, h⟩ := h; unfold Bx at B; rw [B] at h; simp at h
theorem ChC.keepO (h : ChC w c cap buf) (O : Own w base e sz v n cs) (E : w.grownBy w' v.ownBlock) : ChC w' c cap buf := h.keep E fun hh => O.notCh h hh.symm
end

/-! ### two blocks may change -/
structure Gr2 (w w' : World) (c p : Option Nat) : Prop where
  os : w'.os = w.os
  tape : w'.tape = w.tape
  output : w'.output = w.output
  size : w.heap.size ≤ w'.heap.size
  block : ∀ k, k < w.heap.size → some k ≠ c → some k ≠ p → w'.heap[k]? = w.heap[k]?
section
variable {w w1 w2 w' : World} {c p row : Option Nat} {base e sz n b : Nat} {cs : List Value} {v : Value}
theorem Gr2.refl (w : World) (c p : Option Nat) : Gr2 w w c p := ⟨rfl, rfl, rfl, Nat.le_refl _, fun _ _ _ _ => rfl⟩
theorem Gr2.go (h : Gr2 w w1 c p) (E : w1.grownBy w2 row) (hr : ∀ k, k < w.heap.size → row = some k → some k = c ∨ some k = p) : Gr2 w w2 c p :=
  ⟨E.os.trans h.os, E.tape.trans h.tape, E.output.trans h.output, Nat.le_trans h.size E.size, fun k hk hc hp => (E.block k (Nat.lt_of_lt_of_le hk h.size) (fun hh => by rcases hr k hk hh.symm with h | h <;> contradiction)).trans (h.block k hk hc hp)⟩
theorem Gr2.step0 (h : Gr2 w w1 c p) (E : w1.grownBy w2 none) : Gr2 w w2 c p := h.go E (by simp)
theorem Gr2.stepB (h : Gr2 w w1 c p) (E : w1.grownBy w2 p) : Gr2 w w2 c p := h.go E fun k _ hk => .inr hk.symm
theorem Gr2.step1 (h : Gr2 w w1 c p) (E : w1.grownBy w2 (some b)) (hb : w.heap.size ≤ b) : Gr2 w w2 c p := h.go E fun k hk hh => by cases hh; omega
theorem Gr2.split (h : Gr2 w w' c p) : ∃ w1, w.grownBy w1 c ∧ w1.grownBy w' p := by
  cases p with
  | none => exact ⟨w', ⟨h.os, h.tape, h.output, h.size, fun k hk hc => h.block k hk hc (by simp)⟩, grown_refl _ _⟩
  | some p =>
    by_cases hp : p < w.heap.size
    · have hp' : p < w'.heap.size := Nat.lt_of_lt_of_le hp h.size
      refine ⟨{ w' with heap := w'.heap.set p w.heap[p] hp' }, ⟨h.os, h.tape, h.output, by simpa using h.size, fun k hk hc => ?_⟩, ⟨rfl, rfl, rfl, by simp, fun k hk hk2 => ?_⟩⟩
      · show (w'.heap.set p w.heap[p] hp')[k]? = w.heap[k]?
        by_cases e : k = p
        · subst e; simp [hp, hp']
        · rw [Array.getElem?_set_ne _ (fun h => e h.symm)]; exact h.block k hk hc (by simpa using e)
      · show w'.heap[k]? = (w'.heap.set p w.heap[p] hp')[k]?
        rw [Array.getElem?_set_ne _ (fun h => hk2 (by rw [h]))]
    · exact ⟨w', ⟨h.os, h.tape, h.output, h.size, fun k hk hc => h.block k hk hc (fun e => hp (by cases e; exact hk))⟩, grown_refl _ _⟩
theorem Gr2.of (E : w.grownBy w' row) (h : row = c ∨ row = p) : Gr2 w w' c p := (Gr2.refl w c p).go E fun k _ hk => by rcases h with h | h <;> simp_all
end

/-! ### operations -/
section
variable {P : Program} {Q : Exit → Act → World → Prop} {a : Act} {w w' : World} {l : List (Nat × Value)} {ops : Array Oper} {rest : List Oper}
variable {d ty t e c cap : Nat} {p : String} {af : Array Edge} {x y : Operand} {v z : Value} {buf : List Value} {dir : ChanDir}
end
/-! ### lists of texts -/
def sv (s : List UInt8) : Value := .string (bs s)
end Go.Gx

/- Small laws for walks, the twenty-seventh part: objects that are told by the blocks they are made of: what keeps them, and how they stand to each other. -/
namespace Go.Gx
open Go.RowKit

structure Gr (w w' : World) (F : Nat → Prop) : Prop where
  os : w'.os = w.os
  tape : w'.tape = w.tape
  output : w'.output = w.output
  size : w.heap.size ≤ w'.heap.size
  block : ∀ k, k < w.heap.size → ¬ F k → w'.heap[k]? = w.heap[k]?
def Dj (F G : Nat → Prop) : Prop := ∀ k, F k → ¬ G k
abbrev Bl (v : Value) : Nat → Prop := fun k => v.ownBlock = some k
def NewF (n : Nat) (F F' : Nat → Prop) : Prop := ∀ k, F' k → F k ∨ n ≤ k
abbrev NoB : Nat → Prop := fun _ => False

section
variable {w w0 w1 w2 w' : World} {F G H F' : Nat → Prop} {row : Option Nat} {base e sz n b t L B c cap : Nat} {cs buf : List Value} {v u : Value}
theorem Gr.refl (w : World) (F : Nat → Prop) : Gr w w F := ⟨rfl, rfl, rfl, Nat.le_refl _, fun _ _ _ => rfl⟩
theorem Gr.go (h : Gr w w1 F) (E : Gr w1 w2 G) (hG : ∀ k, k < w.heap.size → G k → F k) : Gr w w2 F :=
  ⟨E.os.trans h.os, E.tape.trans h.tape, E.output.trans h.output, Nat.le_trans h.size E.size, fun k hk hn => (E.block k (Nat.lt_of_lt_of_le hk h.size) (fun hg => hn (hG k hk hg))).trans (h.block k hk hn)⟩
theorem Gr.of (E : w.grownBy w' row) : Gr w w' (fun k => row = some k) := ⟨E.os, E.tape, E.output, E.size, fun k hk hn => E.block k hk fun h => hn h.symm⟩
theorem Gr.of0 (E : w.grownBy w' none) (F : Nat → Prop) : Gr w w' F := ⟨E.os, E.tape, E.output, E.size, fun k hk _ => E.block k hk (by simp)⟩
theorem Gr.ofBelow (E : Below w.heap.size w w') (F : Nat → Prop) : Gr w w' F := Gr.of0 (grown_of_below E) F
theorem Gr.mono (E : Gr w w' F) (h : ∀ k, k < w.heap.size → F k → G k) : Gr w w' G := ⟨E.os, E.tape, E.output, E.size, fun k hk hn => E.block k hk fun hf => hn (h k hk hf)⟩
theorem Gr.grown (E : Gr w w' F) (h : ∀ k, k < w.heap.size → F k → row = some k) : w.grownBy w' row := ⟨E.os, E.tape, E.output, E.size, fun k hk hn => E.block k hk fun hf => hn (h k hk hf).symm⟩
/-! a walk's own relation -/
theorem Gr.step0 (h : Gr w w1 F) (E : w1.grownBy w2 none) : Gr w w2 F := h.go (Gr.of0 E F) fun _ _ h => h
theorem Gr.step1 (h : Gr w w1 F) (E : w1.grownBy w2 (some b)) (hb : w.heap.size ≤ b) : Gr w w2 F := h.go (Gr.of E) fun k hk hh => by injection hh with hh; omega
theorem Gr.stepB (h : Gr w w1 F) (E : w1.grownBy w2 (some b)) (hb : F b) : Gr w w2 F := h.go (Gr.of E) fun k hk hh => by injection hh with hh; exact hh ▸ hb
theorem Gr.stepL (h : Gr w w1 F) (E : w1.grownBy w2 v.ownBlock) (hb : ∀ k, k < w.heap.size → Bl v k → F k) : Gr w w2 F := h.go (Gr.of E) fun k hk hh => hb k hk hh
theorem Gr.stepF (h : Gr w w1 F) (E : Gr w1 w2 G) (hG : ∀ k, k < w.heap.size → G k → F k) : Gr w w2 F := h.go E hG
theorem below_stepG (h : Below B w0 w) (E : Gr w w' F) (hB : B ≤ w.heap.size) (hF : ∀ k, F k → B ≤ k) : Below B w0 w' :=
  ⟨E.os.trans h.os, E.tape.trans h.tape, E.output.trans h.output, Nat.le_trans h.size E.size, fun k hk => (E.block k (Nat.lt_of_lt_of_le hk hB) (fun hf => by have := hF k hf; omega)).trans (h.block k hk)⟩
/-! what is kept -/
theorem Bx.keepG (h : Bx w b t cs) (E : Gr w w' F) (hn : ¬ F b) : Bx w' b t cs := by unfold Bx; rw [E.block b h.lt hn]; exact h
theorem ChC.keepG (h : ChC w c cap buf) (E : Gr w w' F) (hn : ¬ F c) : ChC w' c cap buf := by have hl := h.lt; obtain ⟨s, r, h⟩ := h; exact ⟨s, r, (E.block c hl hn).trans h⟩
theorem Own.keepG (h : Own w base e sz v n cs) (E : Gr w w' F) (hd : Dj (Bl v) F) : Own w' base e sz v n cs := by
  refine ⟨h.1, ?_⟩
  rcases h.2 with hn | ⟨g, off, cap, cur, fr, rfl, hb, hg, r⟩
  · exact .inl hn
  · exact .inr ⟨g, off, cap, cur, fr, rfl, hb, by rw [E.block g (Array.getElem?_eq_some_iff.1 hg).1 (hd g rfl)]; exact hg, r⟩
theorem RdC.keepG (h : RdC w L B sz v n cs) (E : Gr w w' F) (hn : ∀ k, F k → k < L ∨ B ≤ k) : RdC w' L B sz v n cs := by
  obtain ⟨h0, a, c, hv, h1, h2, h3⟩ := h
  refine ⟨h0, a, c, hv, h1, h2, ?_⟩
  rcases h3 with h3 | ⟨b, off, ha, hL, hB, hc⟩
  · exact .inl h3
  · refine .inr ⟨b, off, ha, hL, hB, fun j u hu => ?_⟩
    have := hc j u hu
    rw [World.cell?_of_block (w := w) (E.block b (World.block_lt_of_cell? w _ this) (fun hf => by have := hn b hf; omega))]
    exact this
/-! how they stand to each other -/
theorem Dj.symm (h : Dj F G) : Dj G F := fun k hg hf => h k hf hg
theorem Dj.step {v' : Value} (hm : v'.ownBlock = v.ownBlock ∨ ∀ k, v'.ownBlock = some k → n ≤ k) (hl : ∀ k, F k → k < n) (h : Dj F (Bl v)) : Dj F (Bl v') := by
  intro k hk hg
  rcases hm with hm | hm
  · exact h k hk (hm.symm.trans hg)
  · have := hm k hg; have := hl k hk; omega
theorem Dj.stepF (hm : NewF n F F') (hl : ∀ k, G k → k < n) (h : Dj G F) : Dj G F' := by
  intro k hk hg
  rcases hm k hg with hm | hm
  · exact h k hk hm
  · have := hl k hk; omega
theorem Dj.fresh (hl : ∀ k, G k → k < n) (hf : ∀ k, F k → n ≤ k) : Dj G F := fun k hg hk => by have := hl k hg; have := hf k hk; omega
theorem Dj.nil (F : Nat → Prop) : Dj F (Bl (.slice none 0 0)) := fun _ _ hg => (by cases hg)
theorem Dj.mono (h : Dj F G) {G' : Nat → Prop} (hG : ∀ k, G' k → G k) : Dj F G' := fun k hf hg => h k hf (hG k hg)
theorem NewF.refl (n : Nat) (F : Nat → Prop) : NewF n F F := fun _ h => .inl h
theorem NewF.trans (h : NewF n F G) (h2 : NewF t G H) (hn : n ≤ t) : NewF n F H := fun k hk => by
  rcases h2 k hk with q | q
  · exact h k q
  · exact .inr (Nat.le_trans hn q)
theorem NewF.mono (h : NewF n F G) (hn : t ≤ n) : NewF t F G := fun k hk => (h k hk).imp id fun q => Nat.le_trans hn q
theorem Dj.one (h : ¬ F b) : Dj F (fun k => some b = some k) := fun k hf hk => by injection hk with hk; subst hk; exact h hf
theorem ne_stepF (hm : NewF n F F') (hl : b < n) (h : ¬ F b) : ¬ F' b := fun hg => by
  rcases hm b hg with hm | hm
  · exact h hm
  · omega
end
/-! one's own list, cut ahead: it is one's own still -/
section
variable {P : Program} {Q : Exit → Act → World → Prop} {a : Act} {w : World} {l : List (Nat × Value)} {ops : Array Oper} {rest : List Oper}
variable {d ty t e : Nat} {p : String} {af : Array Edge} {x : Operand} {v : Value} {n base sz by_ : Nat} {cs : List Value} {zv : Value}
theorem Own.dropV {ad : Option Addr} {c k : Nat} (O : Own w base e sz (.slice ad n c) n cs) (hk : k ≤ n) : Own w base e sz (.slice (if c = k then ad else ad.map (·.add (k * sz))) (n - k) (c - k)) (n - k) (cs.drop (k * sz)) := by
  obtain ⟨hl, ⟨hv, rfl⟩ | ⟨g, off, cap, cur, fr, hv, hb, hg, hf, hnc, hcm, hfit, htk⟩⟩ := O
  · injection hv with h1 h2 h3
    subst h1; subst h3
    have : k = 0 := by omega
    subst this
    have hcs : cs = [] := List.length_eq_zero_iff.1 (by simpa using hl)
    subst hcs
    simpa using Own.nil w base e sz
  · injection hv with h1 h2 h3
    subst h1; subst h3
    have hmul : (n - k) * sz = n * sz - k * sz := Nat.sub_mul _ _ _
    by_cases hck : c = k
    · subst hck
      have : n = c := by omega
      subst this
      rw [if_pos rfl]
      refine ⟨by simp [hl], .inr ⟨g, off, _, cur, fr, rfl, hb, hg, hf, by omega, by omega, by simp; omega, by simp [hl]⟩⟩
    · rw [if_neg hck, Option.map_some, Addr.add_lit]
      have h2 : k * sz + (c - k) * sz = c * sz := by rw [← Nat.add_mul]; congr 1; omega
      refine ⟨by rw [List.length_drop, hl, hmul], .inr ⟨g, off + k * sz, _, cur, fr, rfl, hb, hg, hf, by omega, by omega, by omega, ?_⟩⟩
      rw [← htk, hmul, ← List.drop_drop, ← List.drop_take]
end
end Go.Gx

/- Small laws for walks, the twenty-eighth part: maps whose keys are whole numbers or texts, as lists of keys and values. -/
namespace Go.Gx
open Go.RowKit Go.MapKept

/-! ### plain lists of keys and values -/
section
variable {K V : Type} [DecidableEq K]
end

/-! ### the block -/
def MapC {K V : Type} (kv : K → Value) (vv : V → Value) (w : World) (m : Nat) (es : List (K × V)) : Prop :=
  ∃ (arr : Array MapEntry) (clock : Nat), w.heap[m]? = some (.map arr clock) ∧ Stamped arr clock ∧ arr.toList.map (fun e => (e.key, e.val)) = es.map (fun p => (kv p.1, vv p.2))
structure KeyT {K : Type} (P : Program) (t : TypeId) (kv : K → Value) : Prop where
  inj : ∀ a b, kv a = kv b → a = b
  key : ∃ d, P.underlying t = some d ∧ ∀ a, IsKey d (kv a)
  bits : ∀ a n, Instr.sameBits (n + 1) (kv a) (kv a) = true
section
variable {K V : Type} {P : Program} {kv : K → Value} {vv : V → Value} {w w' : World} {m : Nat} {es : List (K × V)} {row : Option Nat} {F : Nat → Prop} {b t base e sz n : Nat} {cs : List Value} {v : Value}
theorem MapC.lt (h : MapC kv vv w m es) : m < w.heap.size := by obtain ⟨_, _, h, _⟩ := h; exact (Array.getElem?_eq_some_iff.1 h).1
theorem MapC.keep (h : MapC kv vv w m es) (E : w.grownBy w' row) (hne : some m ≠ row) : MapC kv vv w' m es := by
  have hl := h.lt; obtain ⟨arr, c, h, r⟩ := h; exact ⟨arr, c, (E.block m hl hne).trans h, r⟩
theorem MapC.keep0 (h : MapC kv vv w m es) (E : w.grownBy w' none) : MapC kv vv w' m es := h.keep E (by simp)
theorem MapC.keepG (h : MapC kv vv w m es) (E : Gr w w' F) (hn : ¬ F m) : MapC kv vv w' m es := by
  have hl := h.lt; obtain ⟨arr, c, h, r⟩ := h; exact ⟨arr, c, (E.block m hl hn).trans h, r⟩
theorem Bx.notMap (B : Bx w b t cs) (h : MapC kv vv w m es) : b ≠ m := by
  rintro rfl; obtain ⟨arr, c, h, _⟩ := h; unfold Bx at B; rw [B] at h; simp at h
theorem Own.notMap (O : Own w base e sz v n cs) (h : MapC kv vv w m es) : v.ownBlock ≠ some m := by
  obtain ⟨arr, c, h, _⟩ := h
  rcases O.2 with ⟨rfl, _⟩ | ⟨g, off, cp, cur, fr, rfl, _, hg, _⟩
  · simp [Value.ownBlock]
  · intro hh; simp [Value.ownBlock] at hh; subst hh; rw [hg] at h; simp at h
theorem MapC.keepO (h : MapC kv vv w m es) (O : Own w base e sz v n cs) (E : w.grownBy w' v.ownBlock) : MapC kv vv w' m es := h.keep E fun hh => O.notMap h hh.symm
theorem MapC.nodup [DecidableEq K] {t : Nat} (T : KeyT P t kv) (h : MapC kv vv w m es) : (es.map Prod.fst).Nodup := by
  obtain ⟨arr, c, _, hs, he⟩ := h
  have h1 := congrArg (List.map Prod.fst) he
  simp only [List.map_map] at h1
  have h2 : (es.map (fun p => kv p.1)).Nodup := by
    have := hs.2.2
    rw [show (arr.toList.map (·.key)) = es.map (fun p => kv p.1) from h1] at this
    exact this
  have h3 : es.map (fun p => kv p.1) = (es.map Prod.fst).map kv := by simp
  rw [h3] at h2
  exact (List.pairwise_map.1 h2).imp fun h e => h (congrArg kv e)
end

/-! ### the operations -/
section
variable {K V : Type} {P : Program} {Q : Exit → Act → World → Prop} {a : Act} {w w' : World} {l : List (Nat × Value)} {ops : Array Oper} {rest : List Oper}
variable {d ty mt kt et m : Nat} {p : String} {af : Array Edge} {x y u : Operand} {kv : K → Value} {vv : V → Value} {es : List (K × V)} {k : K} {v : V} {z : Value}
end
end Go.Gx

/- Small laws for walks, the thirty-fifth part: functions that are handed in. -/
namespace Go.Gx
open Go.RowKit
section
variable {P : Program} {Q : Exit → Act → World → Prop} {a : Act} {w : World} {l : List (Nat × Value)} {ops : Array Oper} {rest : List Oper}
variable {d ty : Nat} {p : String} {af : Array Edge}
end
section
variable {K V : Type} {P : Program} {Q : Exit → Act → World → Prop} {a : Act} {w w' : World} {l : List (Nat × Value)} {ops : Array Oper} {rest : List Oper}
variable {ty mt kt et m : Nat} {p : String} {af : Array Edge} {x y : Operand} {kv : K → Value} {vv : V → Value} {es : List (K × V)} {k : K}
end
theorem rd_len {w : World} {L B sz n : Nat} {v : Value} {cs : List Value} (h : RdC w L B sz v n cs) : n ≤ 9223372036854775807 := by obtain ⟨_, _, _, _, hq, hm, _⟩ := h; exact Nat.le_trans hq hm
end Go.Gx

/- Small laws for walks, the thirty-sixth part: lists of one's own, of elements of any size: cut, widened, copied within themselves, cleared behind. -/
namespace Go.Gx
open Go.RowKit
section
variable {P : Program} {Q : Exit → Act → World → Prop} {a : Act} {w w' : World} {l : List (Nat × Value)} {ops : Array Oper} {rest : List Oper}
variable {d ty t e xt yt : Nat} {p : String} {af : Array Edge} {x y : Operand} {v : Value} {k : IntKind} {n base sz by_ b off : Nat} {cs ws : List Value} {zv : Value} {r : Int}
def CapIs (v : Value) (c : Nat) : Prop := v = .slice none 0 0 ∧ c = 0 ∨ ∃ g n, v = .slice (some g) n c
theorem own_setCellsS {q g off cap : Nat} {vs : List Value} (O : Own w base e sz (.slice (some ⟨g, off, none⟩) n cap) n cs) (hq : q + vs.length ≤ n * sz) :
    Own (w.setCells g (off + q) vs) base e sz (.slice (some ⟨g, off, none⟩) n cap) n (cs.take q ++ vs ++ cs.drop (q + vs.length)) ∧ (∀ j, j < vs.length → (w.cell? ⟨g, off + q + j, none⟩).isSome = true) ∧ (∀ j, j < vs.length → w.frozen? ⟨g, off + q + j, none⟩ = false) := by
  obtain ⟨hl, ⟨hv, _⟩ | ⟨g', off', cap', cur, fr, hv, hb, hg, hf, hnc, hcm, hfit, htk⟩⟩ := O
  · cases hv
  · injection hv with e1 e2 e3; injection e1 with e1; injection e1 with e1 e4; subst e1; subst e3; subst e4
    have hnn : n * sz ≤ cap * sz := Nat.mul_le_mul_right _ hnc
    have hsz : off + q + vs.length ≤ cur.size := by omega
    generalize hN : n * sz = N at *
    refine ⟨⟨by simp; omega, .inr ⟨g, off, cap, setsAt cur (off + q) vs, fr, rfl, hb, heap_setCells g e fr vs (off + q) w cur hg, by rw [size_setsAt]; exact hf, hnc, hcm, by rw [size_setsAt]; omega, ?_⟩⟩, fun j hj => by simp [World.cell?, hg]; omega, fun j hj => by
      have := hf (off + q + j) (by omega)
      obtain ⟨lo, hi⟩ := fr
      simp only [World.frozen?, hg]
      simpa [Bool.and_eq_false_iff] using this⟩
    apply List.ext_getElem?
    intro j
    have hcs : ∀ j, cs[j]? = if j < N then cur[off + j]? else none := by
      intro j
      rw [← htk, List.getElem?_take]
      split
      · rw [List.getElem?_drop]; simp
      · rfl
    rw [hN, List.getElem?_take, List.getElem?_drop]
    simp only [Array.getElem?_toList]
    rw [get_setsAt vs (off + q) cur (off + j) hsz]
    simp only [List.getElem?_append, List.length_append, List.length_take, List.getElem?_take, List.getElem?_drop, hcs]
    by_cases h1 : j < N
    · by_cases h2 : j < q
      · rw [if_pos h1, if_neg (by omega), if_pos (by omega), if_pos (by omega), if_pos h2, if_pos h1]
      · by_cases h3 : j < q + vs.length
        · rw [if_pos h1, if_pos (by omega), if_pos (by omega), if_neg (by omega), show off + j - (off + q) = j - min q cs.length by omega]
        · rw [if_pos h1, if_neg (by omega), if_neg (by omega), show q + vs.length + (j - (min q cs.length + vs.length)) = j by omega, if_pos h1]
    · rw [if_neg h1, if_neg (by omega), show q + vs.length + (j - (min q cs.length + vs.length)) = j by omega, if_neg h1]
def cutS (sz : Nat) (v : Value) (k : Nat) : Value := match v with | .slice ad n c => .slice (if c = k then ad else ad.map (·.add (k * sz))) (n - k) (c - k) | x => x
theorem op_slice_cutS {w9 : World} {lo : Operand} {k : Nat} {kk : IntKind} (T : SlT P t e zv sz by_) (hx : (putsL a l).eval x = v) (O : Own w9 base e sz v n cs) (hl : (putsL a l).eval lo = .int kk r) (hr : r = (k : Int)) (hk : k ≤ n) (h : wpList P ops Q rest (putsL a ((d, cutS sz v k) :: l)) w) :
    wpList P ops Q (⟨some d, .slice t x (some lo) none none, ty, p, af, none⟩ :: rest) (putsL a l) w := by
  obtain ⟨inf, hi, hz0, hz1, hz2⟩ := info_parts T.info
  subst hr
  have R := O.rdw
  obtain ⟨hl0, ad, c, rfl, hnc, hcm, _⟩ := R
  have e1 : ¬ ((n : Int) < (k : Int)) := by omega
  have e2 : ¬ ((c : Int) < (n : Int)) := by omega
  have e3 : ¬ n < k := by omega
  have e4 : ¬ c < n := by omega
  refine op_gen (v := .slice (if c = k then ad else ad.map (·.add (k * sz))) (n - k) (c - k)) rfl ?_ h
  by_cases hck : c = k
  · subst hck
    have : n = c := by omega
    subst this
    simp [execOp, hx, hl, Instr.sliceAt, Instr.slice, run_underlying T.und, Instr.sliceBounds, Instr.sliceBound, asIntOf, sizeOf, typeInfo, hi, hz1]
  · simp [execOp, hx, hl, Instr.sliceAt, Instr.slice, run_underlying T.und, Instr.sliceBounds, Instr.sliceBound, asIntOf, sizeOf, typeInfo, hi, hz1, hk, hnc, hck]
theorem run_copyS (w : World) (dT sT ty elem : TypeId) (s b o dLen dCap : Nat) (a : Addr) (sLen sCap : Nat) (cs : List Value)
    (hu : P.underlying dT = some (.slice elem)) (hs : (P.info? elem).map (·.size) = some s) (hn : cs.length = Nat.min sLen dLen * s)
    (hsrc : ∀ j v, cs[j]? = some v → w.cell? (a.add j) = some v) (hc : ∀ j, j < cs.length → (w.cell? ⟨b, o + j, none⟩).isSome = true) (hf : ∀ j, j < cs.length → w.frozen? ⟨b, o + j, none⟩ = false) (h1 : ∀ v ∈ cs, v.oneCell' = true) :
    (Builtin.copy_ #[dT, sT] ty #[.slice (some ⟨b, o, none⟩) dLen dCap, .slice (some a) sLen sCap]).run P w = .ok (goInt (Nat.min sLen dLen)) (w.setCells b o cs) := by
  have hl := run_loadCells_list (P := P) w a cs hsrc
  have hst := run_storeCells_cells (P := P) b o cs 0 w (by simpa using hc) (by simpa using hf) h1
  cases hq : P.info? elem with
  | none => simp [hq] at hs
  | some i =>
    have hi : i.size = s := by simpa [hq] using hs
    simp [Builtin.copy_, run_underlying hu, Builtin.lenOf, Builtin.firstCells, sizeOf, typeInfo, hq, hi, ← hn, hl, hst]
theorem op_copy_cutS {dT sT : Nat} {by2 k m q L B : Nat} {u : Value} (TT : SlT P dT e zv sz by2) (hx : (putsL a l).eval x = cutS sz v k) (O : Own w base e sz v n cs) (hy : (putsL a l).eval y = u) (R : RdC w L B sz u m ws) (h1 : (ws.take (q * sz)).all Value.oneCell' = true) (hk : k + q ≤ n) (hm : q ≤ m) (hq : q = m ∨ q = n - k)
    (h : ∀ w', Own w' base e sz v n (cs.take (k * sz) ++ ws.take (q * sz) ++ cs.drop (k * sz + q * sz)) → w.grownBy w' v.ownBlock → wpList P ops Q rest (putsL a ((d, .int .i64 (q : Int)) :: l)) w') :
    wpList P ops Q (⟨some d, .call ⟨.builtin .copy, #[x, y], #[dT, sT]⟩, ty, p, af, none⟩ :: rest) (putsL a l) w := by
  obtain ⟨i, hi, hz0, hz1, hz2⟩ := info_parts TT.info
  have hpos := TT.pos
  have hsz : (P.info? e).map (·.size) = some sz := by simp [hi, hz1]
  obtain ⟨hl, ad, cc, rfl, hnc, _, hr⟩ := R
  by_cases hq0 : q = 0
  · subst hq0
    obtain ⟨hl0, ad0, c0, rfl, _⟩ := O.rdw
    have hmin : min m (n - k) = 0 := by omega
    refine op_gen (v := .int .i64 ((0 : Nat) : Int)) (w' := w) rfl ?_ (h w (by simpa using O) ⟨rfl, rfl, rfl, Nat.le_refl _, fun _ _ _ => rfl⟩)
    have hx2 : (putsL a l).eval x = .slice (if c0 = k then ad0 else ad0.map (·.add (k * sz))) (n - k) (c0 - k) := hx
    have zero : ∀ ad2 c2, (Builtin.copy_ #[dT, sT] ty #[.slice ad2 (n - k) c2, .slice ad m cc]).run P w = .ok (goInt 0) w := fun ad2 c2 => by
      have hmin' : Nat.min m (n - k) = 0 := hmin
      cases ad <;> cases ad2 <;> simp [Builtin.copy_, run_underlying TT.und, Builtin.lenOf, Builtin.firstCells, sizeOf, typeInfo, hi, hmin', storeCells, loadCells, loadCellsFrom]
    simp only [execOp, hx2, hy, resolve, invoke, builtin, Sem.run_bind, Sem.run_pure, Result.andThen_ok, List.map_toArray, List.map_cons, List.map_nil, zero _ _]
    rfl
  · have hqz : 0 < q * sz := Nat.mul_pos (by omega) hpos
    have hqm : q * sz ≤ m * sz := Nat.mul_le_mul_right _ hm
    have hwl : (ws.take (q * sz)).length = q * sz := by rw [List.length_take]; omega
    have O' := O
    obtain ⟨hl0, ⟨rfl, rfl⟩ | ⟨g, off, cap, cur, fr, rfl, hb, hg, hf, hnc2, hcm, hfit, htk⟩⟩ := O
    · omega
    · have hkc : ¬ cap = k := by omega
      have hkq : k * sz + q * sz ≤ n * sz := by rw [← Nat.add_mul]; exact Nat.mul_le_mul_right _ hk
      rcases hr with rfl | ⟨b2, off2, rfl, _, _, hc⟩
      · simp at hl; omega
      · obtain ⟨g1, g2, g3⟩ := own_setCellsS O' (q := k * sz) (vs := ws.take (q * sz)) (by rw [hwl]; exact hkq)
        have hmn : Nat.min m (n - k) = q := by show min m (n - k) = q; omega
        have hrun := run_copyS (P := P) w dT sT ty e sz g (off + k * sz) (n - k) (cap - k) ⟨b2, off2, none⟩ m cc (ws.take (q * sz)) TT.und hsz (by rw [hwl, hmn])
          (fun j v hv => by
            rw [Addr.add_lit]
            rw [List.getElem?_take] at hv
            split at hv
            · exact hc j v hv
            · cases hv) g2 g3 (fun v hv => List.all_eq_true.1 h1 v hv)
        have hx2 : (putsL a l).eval x = .slice (some ⟨g, off + k * sz, none⟩) (n - k) (cap - k) := by rw [hx]; simp [cutS, hkc, Addr.add_lit]
        refine op_gen (v := .int .i64 (q : Int)) (w' := w.setCells g (off + k * sz) (ws.take (q * sz))) rfl ?_ (h _ (by rw [hwl] at g1; exact g1) (grown_setCells w g _ _))
        simp only [execOp, hx2, hy, resolve, invoke, builtin, Sem.run_bind, Sem.run_pure, Result.andThen_ok, List.map_toArray, List.map_cons, List.map_nil, hrun]
        rw [hmn]; rfl
theorem op_slice_hiC {hi : Operand} {m c : Nat} {kk : IntKind} (T : SlT P t e zv sz by_) (hx : (putsL a l).eval x = v) (hc : CapIs v c) (hh : (putsL a l).eval hi = .int kk r) (hr : r = (m : Int)) (hm : m ≤ c) (h : wpList P ops Q rest (putsL a ((d, hiV v m) :: l)) w) :
    wpList P ops Q (⟨some d, .slice t x none (some hi) none, ty, p, af, none⟩ :: rest) (putsL a l) w := by
  obtain ⟨inf, hin, hz0, hz1, hz2⟩ := info_parts T.info
  subst hr
  rcases hc with ⟨rfl, rfl⟩ | ⟨g, n0, rfl⟩
  · have h0 : m = 0 := by omega
    subst h0
    refine op_gen (v := .slice none 0 0) rfl ?_ h
    simp [execOp, hx, hh, Instr.sliceAt, Instr.slice, run_underlying T.und, Instr.sliceBounds, Instr.sliceBound, asIntOf, sizeOf, typeInfo, hin]
  · have hmc' : ¬ ((c : Int) < (m : Int)) := by omega
    have hg0 : g.add 0 = g := by cases g; simp [Addr.add]
    refine op_gen (v := .slice (some g) m c) rfl ?_ h
    simp [execOp, hx, hh, Instr.sliceAt, Instr.slice, run_underlying T.und, Instr.sliceBounds, Instr.sliceBound, asIntOf, sizeOf, typeInfo, hin, hm, hg0]
theorem Own.cap (O : Own w base e sz v n cs) : ∃ c, n ≤ c ∧ c ≤ 9223372036854775807 ∧ CapIs v c := by
  obtain ⟨c, h1, h2, h3⟩ := O.capOf
  exact ⟨c, h1, h2, h3⟩
theorem CapIs.hi {c m : Nat} (h : CapIs v c) (hm : v = .slice none 0 0 → m = 0) : CapIs (hiV v m) c := by
  rcases h with ⟨rfl, rfl⟩ | ⟨g, n0, rfl⟩
  · have := hm rfl; subst this; exact .inl ⟨rfl, rfl⟩
  · exact .inr ⟨g, m, rfl⟩
theorem Own.wide (O : Own w base e sz v n cs) {c m : Nat} (hc : CapIs v c) (hnm : n ≤ m) (hm : m ≤ c) : ∃ sp, Own w base e sz (hiV v m) m (cs ++ sp) := by
  obtain ⟨hl, ⟨rfl, rfl⟩ | ⟨g, off, cap, cur, fr, rfl, hb, hg, hf, hnc, hcm, hfit, htk⟩⟩ := O
  · rcases hc with ⟨_, rfl⟩ | ⟨g, n0, hv⟩
    · have : m = 0 := by omega
      subst this
      have : cs = [] := List.eq_nil_of_length_eq_zero (by simpa using hl)
      subst this
      exact ⟨[], Own.nil _ _ _ _⟩
    · cases hv
  · rcases hc with ⟨hv, _⟩ | ⟨g2, n0, hv⟩
    · cases hv
    · injection hv with e1 e2 e3
      subst e3
      have hmm : m * sz ≤ cap * sz := Nat.mul_le_mul_right _ hm
      have hnn : n * sz ≤ m * sz := Nat.mul_le_mul_right _ hnm
      have hdl : (cur.toList.drop off).length = cur.size - off := by simp
      refine ⟨((cur.toList.drop off).take (m * sz)).drop (n * sz), ?_⟩
      have key : cs ++ ((cur.toList.drop off).take (m * sz)).drop (n * sz) = (cur.toList.drop off).take (m * sz) := by
        conv => rhs; rw [← List.take_append_drop (n * sz) ((cur.toList.drop off).take (m * sz))]
        rw [List.take_take, Nat.min_eq_left hnn, htk]
      rw [key]
      exact ⟨by rw [List.length_take, hdl]; omega, .inr ⟨g, off, cap, cur, fr, rfl, hb, hg, hf, hm, hcm, hfit, rfl⟩⟩
theorem hiV_ob (v : Value) (m : Nat) : (hiV v m).ownBlock = v.ownBlock := by
  cases v <;> first | rfl | (rename_i ad _ _; cases ad <;> rfl)
end
end Go.Gx

/- Small laws for walks, the thirty-seventh part: appends of known room, clearing behind a list, functions without a body. -/
namespace Go.Gx
open Go.RowKit
section
variable {P : Program} {Q : Exit → Act → World → Prop} {a : Act} {w w' : World} {l : List (Nat × Value)} {ops : Array Oper} {rest : List Oper}
variable {d ty t e tx xt yt : Nat} {p : String} {af : Array Edge} {x y : Operand} {v xv : Value} {k : IntKind} {n m i c base sz by_ b off : Nat} {cs ws news : List Value} {zv : Value} {r : Int}
theorem op_append_zeros_grow {tn : Nat} {kn : IntKind} (T : SlT P t e zv sz by_) (htn : P.underlying tn = some (.int kn)) (hx : (putsL a l).eval x = hiV v i) (O : Own w base e sz v n cs) (hc : CapIs v c) (hi : i ≤ n) (hy : (putsL a l).eval y = .int k r) (hr : r = (m : Int)) (hm : 0 < m) (hg : c < i + m) (h63 : i + m ≤ 9223372036854775807) (hbytes : (i + m) * by_ ≤ 140737488355328) (hbase : base ≤ w.heap.size)
    (h : ∀ v' w' zs, Own w' base e sz v' (i + m) (cs.take (i * sz) ++ zs) → w.grownBy w' none → (∀ b, v'.ownBlock = some b → w.heap.size ≤ b) → wpList P ops Q rest (putsL a ((d, v') :: l)) w') :
    wpList P ops Q (⟨some d, .call ⟨.builtin .append, #[x, y], #[t, tn]⟩, ty, p, af, none⟩ :: rest) (putsL a l) w := by
  obtain ⟨inf, hin, hz, hsize, hby⟩ := info_parts T.info
  subst hr
  subst hsize; subst hby
  have hpos := T.pos
  have hzs := T.zs
  have hle : i * inf.size ≤ n * inf.size := Nat.mul_le_mul_right _ hi
  have hlen : (cs.take (i * inf.size)).length = i * inf.size := by rw [List.length_take]; have := O.1; omega
  have key : ∃ ad, hiV v i = .slice ad i c ∧ (Builtin.firstCells inf.size i (.slice ad i c)).run P w.drew = .ok (cs.take (i * inf.size)).toArray w.drew := by
    obtain ⟨hl, ⟨rfl, rfl⟩ | ⟨g, off, cap, cur, fr, rfl, hb, hgb, hf, hnc, hcm, hfit, htk⟩⟩ := O
    · have : i = 0 := by omega
      subst this
      rcases hc with ⟨_, rfl⟩ | ⟨g, n0, hv⟩
      · exact ⟨none, rfl, by simp [Builtin.firstCells]⟩
      · cases hv
    · have hcc : cap = c := by
        rcases hc with ⟨hv, _⟩ | ⟨g2, n0, hv⟩
        · cases hv
        · injection hv
      subst hcc
      refine ⟨some ⟨g, off, none⟩, rfl, run_firstCells_some w.drew inf.size i ⟨g, off, none⟩ i cap _ hlen fun j u hu => ?_⟩
      rw [List.getElem?_take] at hu
      split at hu
      · rename_i hj
        rw [Addr.add_lit]
        have h1 : w.drew.cell? ⟨g, off + j, none⟩ = cur[off + j]? := by
          show w.cell? _ = _
          simp [World.cell?, hgb]
        rw [h1]
        rw [← htk, List.getElem?_take] at hu
        split at hu
        · rw [List.getElem?_drop] at hu; simpa using hu
        · cases hu
      · cases hu
  obtain ⟨ad, hv, hf⟩ := key
  have hrun := Lib.run_append_grow_zeros (P := P) w t tn ty e inf zv k kn T.und htn hin hz ad i c (cs.take (i * inf.size)) hf m hm hpos hg (by omega) (Nat.le_trans (Nat.mul_le_mul_right inf.bytes (Nat.le_add_left m i)) (Nat.le_trans hbytes (by decide))) (growslice_fits (by omega) hbytes)
  have hge := grownCap_ge w (i + m) c e
  have hcm := grownCap_le_maxLen w (i + m) c e (by unfold maxLen; omega)
  refine op_gen (v := .slice (some ⟨w.heap.size, 0, none⟩) (i + m) (grownCap w (i + m) c e)) (w' := w.drew.alloc (.cells ((cs.take (i * inf.size)).toArray ++ Builtin.zeroCells zv.cells m ++ Builtin.zeroCells zv.cells (grownCap w (i + m) c e - (i + m))) e)) rfl ?_
    (h _ _ (Builtin.zeroCells zv.cells m).toList ⟨by simp [hlen, size_zeroCells, hzs, Nat.add_mul], .inr ⟨w.heap.size, 0, _, _, (0, 0), rfl, hbase, heap_alloc_new w.drew _, by simp, hge, hcm, ?_, ?_⟩⟩ ⟨rfl, rfl, rfl, by simp, fun k hk _ => Below.heap_alloc w.drew _ k hk⟩ (fun b hb => by simp [Value.ownBlock] at hb; omega))
  · simp only [execOp, hx, hy, hv, resolve, invoke, builtin, Sem.run_bind, Sem.run_pure, Result.andThen_ok, List.map_toArray, List.map_cons, List.map_nil, hrun]
  · simp only [Array.size_append, List.size_toArray, size_zeroCells, hzs, hlen, ← Nat.add_mul, Nat.zero_add]
    exact Nat.le_of_eq (by congr 1; omega)
  · simp only [Array.toList_append, List.drop_zero]
    have : (cs.take (i * inf.size) ++ (Builtin.zeroCells zv.cells m).toList).length = (i + m) * inf.size := by simp [hlen, size_zeroCells, hzs, Nat.add_mul]
    rw [← this]
    exact List.take_left
theorem op_ext {f : FuncId} {as9 : Array Operand} {ts : Array Nat} {vs : Array Value} {u : Value} (hm : as9.map (putsL a l).eval = vs) (hr : (callFunc f vs).run P w = .ok (.value u) w') (h : wpList P ops Q rest (putsL a ((d, u) :: l)) w') :
    wpList P ops Q (⟨some d, .call ⟨.value (.func f), as9, ts⟩, ty, p, af, none⟩ :: rest) (putsL a l) w :=
  op_gen (v := u) (w' := w') rfl (by
    show (callFunc f (#[] ++ as9.map (putsL a l).eval ++ #[])).run P w = _
    rw [hm]; simpa using hr) h
theorem Bx.shape {cs : List Value} (h : Bx w b t cs) : w.shape? b = some (t, cs.length) := by
  have h' : w.heap[b]? = some (.cells cs.toArray t (0, 0)) := h
  simp [World.shape?, h']
theorem run_ovl {f : FuncId} {fn : Func} {tR ub m2 : Nat} {xs : List Value} (T : SlT P t e zv sz by_) (hf : P.funcs[f]? = some fn) (hname : (fn.name == "runtime.NumGoroutine") = false) (hb : fn.body.isNone = true) (hn : Extern.findNext fn = none) (he : Extern.find fn = some (Extern.SlicesOverlaps.overlaps #[t, t] #[tR]))
    (hU : Bx w ub e xs) (O : Own w base e sz v n cs) (hne : v.ownBlock ≠ some ub) (hn0 : 0 < n) : (callFunc f #[.slice (some ⟨ub, 0, none⟩) m2 m2, cutS sz v i]).run P w = .ok (.value (.bool false)) w := by
  obtain ⟨inf, hin, hz0, hz1, hz2⟩ := info_parts T.info
  obtain ⟨hl, ⟨rfl, rfl⟩ | ⟨g, off, cap, cur, fr, rfl, hb2, hgb, hf2, hnc, hcm, hfit, htk⟩⟩ := O
  · omega
  · have hpos := T.pos
    have hcs : 0 < cur.size := Nat.lt_of_lt_of_le (Nat.mul_pos (show 0 < cap by omega) hpos) (Nat.le_trans (Nat.le_add_left _ _) hfit)
    have hgu : ub ≠ g := fun e => hne (by rw [e]; rfl)
    obtain ⟨off', hcut⟩ : ∃ off', cutS sz (.slice (some ⟨g, off, none⟩) n cap) i = .slice (some ⟨g, off', none⟩) (n - i) (cap - i) := by
      by_cases hci : cap = i
      · exact ⟨off, by simp [cutS, hci]⟩
      · exact ⟨off + i * sz, by simp [cutS, hci, Addr.add_lit]⟩
    rw [hcut, run_callFunc_extern hf hname hb hn he, Lib.run_overlaps_apart w t tR e T.und sz (fun w => by simp [sizeOf, typeInfo, hin, hz1]) ⟨ub, 0, none⟩ ⟨g, off', none⟩ m2 m2 (n - i) (cap - i) hgu e e xs.length cur.size hU.shape (by simp [World.shape?, hgb]) (by omega) (hU.free 0) (hU.free xs.length)]
    rfl
end
end Go.Gx

/- Small laws for walks, the thirty-eighth part: what is left of lists when elements are put in or taken out. -/
namespace Go.Gx
open Go.RowKit
section
variable {w : World} {base e sz n k i : Nat} {v : Value} {cs xs sp zs : List Value}
theorem Own.cutO (O : Own w base e sz v n cs) (hk : k ≤ n) : Own w base e sz (cutS sz v k) (n - k) (cs.drop (k * sz)) := by
  obtain ⟨_, ad, c, rfl, _⟩ := O.rdw
  exact O.dropV hk
theorem Own.hiCut (O : Own w base e sz v n cs) (hk : k ≤ n) : Own w base e sz (hiV v k) k (cs.take (k * sz)) := by
  obtain ⟨hl, ⟨rfl, rfl⟩ | ⟨g, off, cap, cur, fr, rfl, hb, hg, hf, hnc, hcm, hfit, htk⟩⟩ := O
  · have h0 : k = 0 := by omega
    subst h0
    simpa [hiV] using Own.nil w base e sz
  · have hkn : k * sz ≤ n * sz := Nat.mul_le_mul_right _ hk
    refine ⟨by rw [List.length_take]; omega, .inr ⟨g, off, cap, cur, fr, rfl, hb, hg, hf, by omega, hcm, hfit, ?_⟩⟩
    rw [← htk, List.take_take, Nat.min_eq_left hkn]
theorem hiV_ne {m b : Nat} (h : v.ownBlock ≠ some b) : (hiV v m).ownBlock ≠ some b := by rw [hiV_ob]; exact h
theorem Own.rebase {base' : Nat} (O : Own w base e sz v n cs) (h : ∀ k, v.ownBlock = some k → base' ≤ k) : Own w base' e sz v n cs := by
  obtain ⟨hl, ⟨rfl, rfl⟩ | ⟨g, off, cap, cur, fr, rfl, hb, hg, hf, hnc, hcm, hfit, htk⟩⟩ := O
  · exact ⟨hl, .inl ⟨rfl, rfl⟩⟩
  · exact ⟨hl, .inr ⟨g, off, cap, cur, fr, rfl, h g rfl, hg, hf, hnc, hcm, hfit, htk⟩⟩
theorem fresh_ne {m b : Nat} (hf : ∀ k, v.ownBlock = some k → m ≤ k) (hb : b < m) : v.ownBlock ≠ some b := fun h => by have := hf b h; omega
theorem all_drop_take {α : Type} {p : α → Bool} {cs : List α} {a r : Nat} (h : cs.all p = true) : ((cs.drop a).take r).all p = true := by
  rw [List.all_eq_true] at h ⊢
  exact fun x hx => h x (List.mem_of_mem_drop (List.mem_of_mem_take hx))
theorem all_mid {α : Type} {p : α → Bool} {cs sp : List α} {a r : Nat} (h : cs.all p = true) (hc : cs.length = a + r) : (((cs ++ sp).drop a).take r).all p = true := by
  rw [List.drop_append_of_le_length (by omega), List.take_append_of_le_length (by simp; omega)]
  exact all_drop_take h
theorem ins_end {α : Type} {cs xs : List α} {a : Nat} (hc : cs.length = a) : cs.take a ++ xs ++ cs.drop a = cs ++ xs := by
  rw [List.take_of_length_le (by omega), List.drop_eq_nil_of_le (by omega), List.append_nil]
theorem ins_room {α : Type} {cs sp xs : List α} {a s r : Nat} (hc : cs.length = a + r) (hs : (cs ++ sp).length = a + r + s) (hx : xs.length = s) :
   (((cs ++ sp).take (a + s) ++ ((cs ++ sp).drop a).take r ++ (cs ++ sp).drop (a + s + r)).take a ++ xs.take s ++ ((cs ++ sp).take (a + s) ++ ((cs ++ sp).drop a).take r ++ (cs ++ sp).drop (a + s + r)).drop (a + s)) = cs.take a ++ xs ++ cs.drop a := by
  have e1 : (cs ++ sp).take (a + s) ++ ((cs ++ sp).drop a).take r ++ (cs ++ sp).drop (a + s + r) = (cs ++ sp).take (a + s) ++ cs.drop a := by
    have h1 : ((cs ++ sp).drop a).take r = cs.drop a := by
      rw [List.drop_append_of_le_length (by omega), List.take_append_of_le_length (by simp; omega), List.take_of_length_le (by simp; omega)]
    rw [h1, List.drop_eq_nil_of_le (as := cs ++ sp) (by omega), List.append_nil]
  have hl : ((cs ++ sp).take (a + s)).length = a + s := by rw [List.length_take]; omega
  rw [e1, List.take_append_of_le_length (by omega), List.take_take, Nat.min_eq_left (by omega), List.take_append_of_le_length (by omega), List.take_of_length_le (l := xs) (by omega), List.drop_append, hl, Nat.sub_self, List.drop_zero, List.drop_eq_nil_of_le (by omega), List.nil_append]
theorem ins_grow {α : Type} {cs zs xs : List α} {a s r : Nat} (hc : cs.length = a + r) (hz : zs.length = r + s) (hx : xs.length = s) :
   (((cs.take a ++ zs).take a ++ xs.take s ++ (cs.take a ++ zs).drop (a + s)).take (a + s) ++ (cs.drop a).take r ++ ((cs.take a ++ zs).take a ++ xs.take s ++ (cs.take a ++ zs).drop (a + s)).drop (a + s + r)) = cs.take a ++ xs ++ cs.drop a := by
  have hl : (cs.take a).length = a := by rw [List.length_take]; omega
  have e1 : (cs.take a ++ zs).take a = cs.take a := by rw [List.take_append_of_le_length (by omega), List.take_take, Nat.min_self]
  have e2 : xs.take s = xs := List.take_of_length_le (by omega)
  have e3 : (cs.drop a).take r = cs.drop a := List.take_of_length_le (by simp; omega)
  rw [e1, e2, e3, List.take_append_of_le_length (by simp; omega), List.take_of_length_le (l := cs.take a ++ xs) (by simp; omega)]
  rw [List.drop_eq_nil_of_le (as := cs.take a ++ xs ++ (cs.take a ++ zs).drop (a + s)) (by simp; omega), List.append_nil]
end
section
variable {P : Program} {Q : Exit → Act → World → Prop} {a : Act} {w w' : World} {l : List (Nat × Value)} {ops : Array Oper} {rest : List Oper} {d ty : Nat} {p : String} {af : Array Edge} {x y : Operand} {vx vy u : Value}
theorem op_ext2 {f : FuncId} {ts : Array Nat} (hx : (putsL a l).eval x = vx) (hy : (putsL a l).eval y = vy) (hr : (callFunc f #[vx, vy]).run P w = .ok (.value u) w') (h : wpList P ops Q rest (putsL a ((d, u) :: l)) w') :
    wpList P ops Q (⟨some d, .call ⟨.value (.func f), #[x, y], ts⟩, ty, p, af, none⟩ :: rest) (putsL a l) w :=
  op_ext (vs := #[vx, vy]) (by simp [hx, hy]) hr h
end
end Go.Gx

/- Small laws for walks, the thirty-ninth part: comparing lists of bytes; searching. -/
namespace Go.Gx
open Go.RowKit
theorem cmpT_bytes : ∀ (a b : List UInt8), Lib.compareBytes a b = cmpT a b
  | [], [] => rfl
  | [], _ :: _ => rfl
  | _ :: _, [] => rfl
  | a :: x, b :: y => by
    simp only [Lib.compareBytes, cmpT, cmpT_bytes x y, UInt8.lt_iff_toNat_lt]
theorem lt_cons {a b : UInt8} {x y : List UInt8} : (a :: x) < (b :: y) ↔ a < b ∨ a = b ∧ x < y := List.cons_lt_cons_iff
theorem cmpT_lt : ∀ {a b : List UInt8}, cmpT a b < 0 ↔ a < b
  | [], [] => by simp [cmpT]
  | [], _ :: _ => by simp [cmpT]
  | _ :: _, [] => by simp [cmpT]
  | a :: x, b :: y => by
    rw [lt_cons]
    simp only [cmpT]
    by_cases h1 : a.toNat < b.toNat
    · have : a < b := UInt8.lt_iff_toNat_lt.2 h1
      simp [h1, this]
    · have h1' : ¬ a < b := fun h => h1 (UInt8.lt_iff_toNat_lt.1 h)
      by_cases h2 : b.toNat < a.toNat
      · have h3 : ¬ a = b := by rintro rfl; omega
        simp [h1, h2, h1', h3]
      · have h3 : a = b := UInt8.toNat_inj.1 (by omega)
        subst h3
        simp [cmpT_lt (a := x) (b := y), h1']
theorem cmpT_zero {a b : List UInt8} : cmpT a b = 0 ↔ a = b := ⟨cmpT_eq, fun h => h ▸ cmpT_refl a⟩
theorem run_ldB {P : Program} (w : World) : ∀ (l : List UInt8) (a : Addr) (acc : ByteArray), (∀ j x, l[j]? = some x → w.cell? (a.add j) = some (.int .u8 x.toNat)) →
    (Extern.Bytes.loadBytes a l.length acc).run P w = .ok ⟨acc.data ++ l.toArray⟩ w
  | [], a, acc, _ => by simp [Extern.Bytes.loadBytes]
  | x :: l, a, acc, h => by
    have h0 : w.cell? a = some (.int .u8 x.toNat) := by
      have := h 0 x rfl
      simpa [Addr.add] using this
    have ih := run_ldB (P := P) w l (a.add 1) (acc.push x) (fun j y hy => by
      have := h (j + 1) y (by simpa using hy)
      have e : (a.add 1).add j = a.add (j + 1) := by
        unfold Addr.add
        by_cases hj : j = 0
        · subst hj; simp
        · simp [hj]; omega
      rw [e]; exact this)
    have hx : ((x.toNat : Int).toNat).toUInt8 = x := by simp
    simp only [List.length_cons, Extern.Bytes.loadBytes, Sem.run_bind, run_load, h0, Result.andThen, hx]
    rw [ih]
    congr 1
    apply ByteArray.ext
    simp [ByteArray.push]
section
variable {P : Program} {w : World} {L B L2 B2 n m : Nat} {v u : Value} {la lb : List UInt8}
theorem run_bytesOf (R : RdC w L B 1 v n (la.map u8v)) : (Extern.Bytes.bytesOf v).run P w = .ok (bs la) w := by
  obtain ⟨hl, ad, c, rfl, _, _, hc⟩ := R
  rw [List.length_map] at hl
  have e : bs la = ⟨(ByteArray.empty).data ++ la.toArray⟩ := by apply ByteArray.ext; simp [bs]
  cases ad with
  | none =>
    rcases hc with h | ⟨b, off, ha, _⟩
    · have : la = [] := by simpa using h
      subst this
      rfl
    · cases ha
  | some a =>
    have hn : n = la.length := by omega
    subst hn
    show (Extern.Bytes.loadBytes a la.length .empty).run P w = _
    rw [e]
    exact run_ldB w la a .empty fun j x hx => by
      rcases hc with h | ⟨b, off, ha, _, _, hc⟩
      · have : la = [] := by simpa using h
        subst this
        cases hx
      · cases ha
        rw [Addr.add_lit]
        exact hc j _ (by rw [List.getElem?_map, hx]; rfl)
theorem run_cmpB (R : RdC w L B 1 v n (la.map u8v)) (R2 : RdC w L2 B2 1 u m (lb.map u8v)) : (Extern.BytealgCompare.compare #[v, u]).run P w = .ok (.int .i64 (cmpT la lb)) w := by
  change Sem.run P (do pure (goInt (Extern.BytealgCompare.cmp (← Extern.Bytes.bytesOf v) (← Extern.Bytes.bytesOf u)))) w = _
  simp only [Sem.run_bind, run_bytesOf R, run_bytesOf R2, Result.andThen, Sem.run_pure]
  rw [Lib.cmp_eq, cmpT_bytes]
  rfl
end
end Go.Gx
