/- Small laws for walks, the ninth part: rounds told one by one, parts that are equal, small builtins. -/
import Derived.Test.YtkkongnmcfdioaaLib8
import Derived.LoopN
import Derived.Laws.StructEq
namespace Go.Gx
open Go.RowKit
section
variable {P : Program} {Q : Exit → Act → World → Prop} {a : Act} {w w' : World} {l : List (Nat × Value)} {ops : Array Oper} {rest : List Oper}
variable {d ty xt yt t e : Nat} {p : String} {af : Array Edge} {x y z : Operand} {v u : Value} {k : IntKind} {m n r : Int}
theorem rounds_any {c : Code} {n : Nat} (h : ∀ K : Act → World → Prop, (∀ a w, Code.rounds P c Q n a w → K a w) → c.wp P (Exit.then K Q) a w) : Code.rounds P c Q (n + 1) a w := h _ fun _ _ h => h
/-- structs (and arrays) held against one another -/
def EqA (P : Program) (t : Nat) (xs ys : List Value) (b : Bool) : Prop := P.eqGuardType P.depth t = false ∧ ∀ w : World, (Op.equalIn 10000 t (.agg xs.toArray) (.agg ys.toArray)).run P w = .ok b w
theorem op_aeql {xs ys : List Value} {b b' : Bool} (hx : (putsL a l).eval x = .agg xs.toArray) (hy : (putsL a l).eval y = .agg ys.toArray) (he : EqA P xt xs ys b) (hb : b = b') (h : wpList P ops Q rest (putsL a ((d, .bool b') :: l)) w) :
    wpList P ops Q (⟨some d, .binOp .eql xt x y yt, ty, p, af, none⟩ :: rest) (putsL a l) w := by
  subst hb
  exact op_gen (v := .bool b) rfl (by simp only [execOp, hx, hy, Sem.run_bind, run_eqGuard_agg w .eql xt x y _ _ he.1, Result.andThen_ok, run_eql_struct, he.2 w, Sem.run_pure]) h
theorem op_aneq {xs ys : List Value} {b b' : Bool} (hx : (putsL a l).eval x = .agg xs.toArray) (hy : (putsL a l).eval y = .agg ys.toArray) (he : EqA P xt xs ys b) (hb : (!b) = b') (h : wpList P ops Q rest (putsL a ((d, .bool b') :: l)) w) :
    wpList P ops Q (⟨some d, .binOp .neq xt x y yt, ty, p, af, none⟩ :: rest) (putsL a l) w := by
  subst hb
  exact op_gen (v := .bool (!b)) rfl (by simp only [execOp, hx, hy, Sem.run_bind, run_eqGuard_agg w .neq xt x y _ _ he.1, Result.andThen_ok, run_neq_struct, he.2 w, Sem.run_pure]) h
/-- one field after another, each of one cell -/
def eqC : Value → Value → Option Bool
  | .int k a, .int k' b => if k = k' then some (a == b) else none
  | .bool a, .bool b => some (a == b)
  | .string a, .string b => some (a.toList == b.toList)
  | _, _ => none
def fldC (P : Program) (t : Nat) (v : Value) : Bool := match P.underlying t, v with | some (.int k), .int k' _ => k == k' | some .bool, .bool _ => true | some .string, .string _ => true | _, _ => false
theorem eqC_run {d t : Nat} {a b : Value} {r : Bool} (ht : fldC P t a = true) (h : eqC a b = some r) : (Op.equalIn (d + 1) t a b).run P w = .ok r w := by
  unfold fldC at ht
  cases hu : P.underlying t with
  | none => simp [hu] at ht
  | some dd =>
    cases dd <;> simp only [hu] at ht <;> try (cases ht; done)
    all_goals (cases a <;> simp only at ht <;> try (cases ht; done))
    all_goals (cases b <;> simp only [eqC] at h <;> try (cases h; done))
    · rw [run_equalIn_bool' w d t _ _ hu]; simpa using h
    · split at h
      · rename_i hk; subst hk; rw [run_equalIn_int w d t _ _ _ _ hu]; simpa using h
      · cases h
    · rw [run_equalIn_string w d t _ _ hu]; simpa using h
theorem part_fld {t off : Nat} {v : Value} {xs : List Value} (ht : fldC P t v = true) (hx : xs[off]? = some v) : (part t xs.toArray off).run P w = .ok v w := by
  unfold fldC at ht
  cases hu : P.underlying t with
  | none => simp [hu] at ht
  | some dd => cases dd <;> simp only [hu] at ht <;> first | (cases ht; done) | (simp [part, isAgg, run_underlying hu, hx])
def eqRun (P : Program) (xs ys : List Value) : List Field → Option Bool
  | [] => some true
  | f :: fs => if f.name = "_" then none else match xs[f.offset]?, ys[f.offset]? with
    | some a, some b => if fldC P f.type a && fldC P f.type b then match eqC a b, eqRun P xs ys fs with | some r, some q => some (r && q) | _, _ => none else none
    | _, _ => none
theorem eqRun_run {xs ys : List Value} {d : Nat} : ∀ (fs : List Field) {r : Bool}, eqRun P xs ys fs = some r → (Op.eqFields (d + 1) xs.toArray ys.toArray fs).run P w = .ok r w
  | [], r, h => by simp [eqRun] at h; subst h; simp [Op.eqFields]
  | f :: fs, r, h => by
    simp only [eqRun] at h
    split at h
    · cases h
    · rename_i hn
      split at h
      · rename_i a b ha hb
        split at h
        · rename_i hf
          simp only [Bool.and_eq_true] at hf
          split at h
          · rename_i r' q hr hq
            cases h
            have := eqRun_run (d := d) fs hq
            simp only [Op.eqFields, hn, ne_eq, not_false_eq_true, if_true, Sem.run_bind, part_fld hf.1 ha, part_fld hf.2 hb, Result.andThen_ok, eqC_run hf.1 hr]
            cases r'
            · simp
            · simpa using this
          · cases h
        · cases h
      · cases h
theorem EqA.flat {fs : Array Field} {xs ys : List Value} {r : Bool} (ht : P.underlying t = some (.struct fs)) (hp : P.stoodInHeld t = false) (hg : P.eqGuardType P.depth t = false) (h : eqRun P xs ys fs.toList = some r) : EqA P t xs ys r := by
  refine ⟨hg, fun w => ?_⟩
  have hf : P.fieldsOf t = fs := by simp [Program.fieldsOf, ht]
  rw [run_equalIn_agg w 9999 t _ _ (by rw [hf]; exact ht) hp, hf]
  exact eqRun_run fs.toList h
end
theorem cmpT_end {a b : List UInt8} {i : Nat} (h : i ≤ a.length ∧ i ≤ b.length) (hn : ¬ (i < a.length ∧ i < b.length)) : cmpT (a.drop i) (b.drop i) = if a.length < b.length then -1 else if b.length < a.length then 1 else 0 := by
  by_cases ha : i < a.length
  · have hb : b.length ≤ i := by omega
    rw [List.drop_of_length_le hb, if_neg (by omega), if_pos (by omega)]
    cases hd : a.drop i with
    | nil => have := congrArg List.length hd; simp at this; omega
    | cons x y => rfl
  · rw [List.drop_of_length_le (by omega : a.length ≤ i)]
    by_cases hb : i < b.length
    · rw [if_pos (by omega)]
      cases hd : b.drop i with
      | nil => have := congrArg List.length hd; simp at this; omega
      | cons x y => rfl
    · rw [List.drop_of_length_le (by omega : b.length ≤ i), if_neg (by omega), if_neg (by omega)]; rfl
theorem el_str {l : List UInt8} {e : Int} {i : Nat} (he : e = (i : Int)) (h : i < l.length) : l[e.toNat]? = some (l.getD i 0) := by
  subst he
  simp [h, List.getD_eq_getElem?_getD]
end Go.Gx
