/- Small laws for walks, the eighth part: order of texts, arrays in variables, lists of numbers. -/
import Derived.Test.YtkkongnmcfdioaaLib7
namespace Go.Gx
open Go.RowKit

/-! ### how texts stand -/
def cmpT : List UInt8 → List UInt8 → Int
  | [], [] => 0
  | [], _ :: _ => -1
  | _ :: _, [] => 1
  | a :: x, b :: y => if a.toNat < b.toNat then -1 else if b.toNat < a.toNat then 1 else cmpT x y
def cmpI (m n : Int) : Int := if m < n then -1 else if n < m then 1 else 0
theorem cmpT_less : ∀ (a b : List UInt8), Op.bytesLess a b = decide (cmpT a b = -1)
  | [], [] => rfl
  | [], _ :: _ => rfl
  | _ :: _, [] => rfl
  | a :: x, b :: y => by
    simp only [Op.bytesLess, cmpT]
    by_cases h1 : a.toNat < b.toNat
    · have : a < b := UInt8.lt_iff_toNat_lt.2 h1
      simp [h1, this]
    · have h1' : ¬ a < b := fun h => h1 (UInt8.lt_iff_toNat_lt.1 h)
      by_cases h2 : b.toNat < a.toNat
      · have h3 : ¬ a = b := by rintro rfl; omega
        simp [h1, h2, h1', h3]
      · have h3 : a = b := UInt8.toNat_inj.1 (by omega)
        subst h3
        simp [cmpT_less x y]
theorem cmpT_refl : ∀ (a : List UInt8), cmpT a a = 0
  | [] => rfl
  | a :: x => by simp [cmpT, cmpT_refl x]
theorem cmpT_eq : ∀ {a b : List UInt8}, cmpT a b = 0 → a = b
  | [], [], _ => rfl
  | [], _ :: _, h => by simp [cmpT] at h
  | _ :: _, [], h => by simp [cmpT] at h
  | a :: x, b :: y, h => by
    simp only [cmpT] at h
    split at h
    · simp at h
    · split at h
      · simp at h
      · have h3 : a = b := UInt8.toNat_inj.1 (by omega)
        rw [h3, cmpT_eq h]
theorem cmpT_val (a b : List UInt8) : cmpT a b = -1 ∨ cmpT a b = 0 ∨ cmpT a b = 1 := by
  induction a generalizing b with
  | nil => cases b <;> simp [cmpT]
  | cons x a ih =>
    cases b with
    | nil => simp [cmpT]
    | cons y b =>
      simp only [cmpT]
      split
      · simp
      · split
        · simp
        · exact ih b
theorem cmpT_swap (a b : List UInt8) : cmpT b a = - cmpT a b := by
  induction a generalizing b with
  | nil => cases b <;> simp [cmpT]
  | cons x a ih =>
    cases b with
    | nil => simp [cmpT]
    | cons y b =>
      simp only [cmpT]
      by_cases h1 : x.toNat < y.toNat
      · have h2 : ¬ y.toNat < x.toNat := by omega
        simp [h1, h2]
      · by_cases h2 : y.toNat < x.toNat
        · simp [h1, h2]
        · simp [h1, h2, ih b]
theorem cmpT_gtr (a b : List UInt8) : (!(Op.bytesLess a b || a == b)) = decide (cmpT a b = 1) := by
  rw [cmpT_less]
  rcases cmpT_val a b with h | h | h
  · simp [h]
  · have := cmpT_eq h; subst this; simp [h]
  · have h2 : a ≠ b := by rintro rfl; rw [cmpT_refl] at h; cases h
    simp [h, h2]
theorem cmpT_step {a b : List UInt8} {i : Nat} (ha : i < a.length) (hb : i < b.length) : cmpT (a.drop i) (b.drop i) = if (a.getD i 0).toNat < (b.getD i 0).toNat then -1 else if (b.getD i 0).toNat < (a.getD i 0).toNat then 1 else cmpT (a.drop (i + 1)) (b.drop (i + 1)) := by
  rw [List.drop_eq_getElem_cons ha, List.drop_eq_getElem_cons hb]
  simp [cmpT, List.getD_eq_getElem?_getD, ha, hb]

section
variable {P : Program} {Q : Exit → Act → World → Prop} {a : Act} {w w' : World} {l : List (Nat × Value)} {ops : Array Oper} {rest : List Oper}
variable {d ty xt yt t e : Nat} {p : String} {af : Array Edge} {x y z : Operand} {v u : Value} {k : IntKind} {m n r : Int}
theorem op_slss {s t : List UInt8} {b : Bool} (hx : (putsL a l).eval x = .string (bs s)) (hy : (putsL a l).eval y = .string (bs t)) (hb : decide (cmpT s t = -1) = b) (h : wpList P ops Q rest (putsL a ((d, .bool b) :: l)) w) :
    wpList P ops Q (⟨some d, .binOp .lss xt x y yt, ty, p, af, none⟩ :: rest) (putsL a l) w :=
  op_gen (v := .bool b) rfl (by
    have e1 : binOp .lss xt (.string (bs s)) (.string (bs t)) = pure (.bool (Op.bytesLess (bs s).toList (bs t).toList)) := rfl
    rw [← hb, ← cmpT_less, ← bs_toList s, ← bs_toList t]
    simp only [execOp, hx, hy, eqGuard_at_string, Sem.run_bind, Sem.run_pure, Result.andThen_ok, e1, bs_toList]) h
theorem op_sgtr {s t : List UInt8} {b : Bool} (hx : (putsL a l).eval x = .string (bs s)) (hy : (putsL a l).eval y = .string (bs t)) (hb : decide (cmpT s t = 1) = b) (h : wpList P ops Q rest (putsL a ((d, .bool b) :: l)) w) :
    wpList P ops Q (⟨some d, .binOp .gtr xt x y yt, ty, p, af, none⟩ :: rest) (putsL a l) w :=
  op_gen (v := .bool b) rfl (by
    have e1 : binOp .gtr xt (.string (bs s)) (.string (bs t)) = pure (.bool (!(Op.bytesLess (bs s).toList (bs t).toList || (bs s).toList == (bs t).toList))) := rfl
    rw [← hb, ← cmpT_gtr]
    simp only [execOp, hx, hy, eqGuard_at_string, Sem.run_bind, Sem.run_pure, Result.andThen_ok, e1, bs_toList]) h
/-- An array in a variable: the place of an element. -/
def arrT (P : Program) (t : TypeId) : Option (Nat × Nat) := match P.underlying t with | some (.array n e) => (P.info? e).map fun i => (n, i.size) | _ => none
theorem op_index_arr {b off c sz : Nat} {i : Int} {j : Nat} (hT : arrT P xt = some (c, sz)) (hx : (putsL a l).eval x = ptr b off) (hy : (putsL a l).eval y = .int k i) (hj : i = (j : Int)) (h1 : j < c) (h : wpList P ops Q rest (putsL a ((d, ptr b (off + j * sz)) :: l)) w) :
    wpList P ops Q (⟨some d, .indexAddr xt x y, ty, p, af, none⟩ :: rest) (putsL a l) w := by
  unfold arrT at hT
  cases hu : P.underlying xt with
  | none => simp [hu] at hT
  | some dd =>
    cases dd with
    | array n e =>
      simp only [hu] at hT
      obtain ⟨inf, hi, hq⟩ := Option.map_eq_some_iff.1 hT
      simp at hq
      obtain ⟨rfl, rfl⟩ := hq
      subst hj
      exact op_gen (v := ptr b (off + j * inf.size)) rfl (by
        have hand : (0 ≤ (j : Int) ∧ (j : Int) < (n : Int)) := by omega
        simp [execOp, hx, hy, Instr.indexAt, asIntOf, run_underlying hu, sizeOf, typeInfo, hi, ptr, Addr.add_lit, Instr.sureAddr, h1]) h
    | _ => simp [hu] at hT
end
theorem el_i64 {l : List Int} {e : Int} {i : Nat} (he : e = (i : Int)) (h : i < l.length) : (l.map (Value.int .i64))[e.toNat * 1 + 0]? = some (Value.int .i64 (l.getD i 0)) := by
  subst he
  simp [h, List.getD_eq_getElem?_getD]
theorem at_sub {cs : List Value} {k n j : Nat} {u : Value} (h : ((cs.drop k).take n)[j]? = some u) : cs[k + j]? = some u := by
  rw [List.getElem?_take] at h
  split at h
  · simpa using h
  · cases h
end Go.Gx
