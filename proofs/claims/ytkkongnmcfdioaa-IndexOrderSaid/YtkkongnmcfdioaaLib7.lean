/- Small laws for walks, the seventh part: comparisons that are kept, and what a region in any order asks. -/
import Derived.Test.YtkkongnmcfdioaaLib6
namespace Go.Gx
open Go.RowKit
section
variable {P : Program} {Q : Exit → Act → World → Prop} {a : Act} {w w' : World} {l : List (Nat × Value)} {ops : Array Oper} {rest : List Oper}
variable {d ty xt yt t e : Nat} {p : String} {af : Array Edge} {x y z : Operand} {v u : Value} {k : IntKind} {m n r : Int}
/-- A comparison whose answer is known. -/
theorem op_cmp {op : BinOp} {b : Bool} {k' : IntKind} (hx : (putsL a l).eval x = .int k m) (hy : (putsL a l).eval y = .int k' n) (hb : (binOp op xt (.int k m) (.int k' n)).run P w = .ok (.bool b) w) (h : wpList P ops Q rest (putsL a ((d, .bool b) :: l)) w) :
    wpList P ops Q (⟨some d, .binOp op xt x y yt, ty, p, af, none⟩ :: rest) (putsL a l) w := op_bin hx hy hb h
theorem b_lss {b : Bool} (h : decide (m < n) = b) : (binOp .lss xt (.int k m) (.int k n)).run P w = .ok (.bool b) w := by rw [binOp_lss, ← h]; rfl
theorem b_leq {b : Bool} (h : decide (m ≤ n) = b) : (binOp .leq xt (.int k m) (.int k n)).run P w = .ok (.bool b) w := by rw [binOp_leq, ← h]; rfl
theorem b_gtr {b : Bool} (h : decide (n < m) = b) : (binOp .gtr xt (.int k m) (.int k n)).run P w = .ok (.bool b) w := by rw [binOp_gtr, ← h]; rfl
theorem b_geq {b : Bool} (h : decide (n ≤ m) = b) : (binOp .geq xt (.int k m) (.int k n)).run P w = .ok (.bool b) w := by rw [binOp_geq, ← h]; rfl
theorem b_eql {b : Bool} (h : decide (m = n) = b) : (binOp .eql xt (.int k m) (.int k n)).run P w = .ok (.bool b) w := by
  rw [binOp_eql, ← h]
  have : (m == n) = decide (m = n) := by rw [Bool.eq_iff_iff]; simp
  rw [this]; rfl
theorem b_neq {b : Bool} (h : decide (m ≠ n) = b) : (binOp .neq xt (.int k m) (.int k n)).run P w = .ok (.bool b) w := by
  rw [binOp_neq, ← h]
  have : (m != n) = decide (m ≠ n) := by rw [Bool.eq_iff_iff]; simp
  rw [this]; rfl
theorem op_seqlb {s t : List UInt8} {b : Bool} (hx : (putsL a l).eval x = .string (bs s)) (hy : (putsL a l).eval y = .string (bs t)) (hb : decide (s = t) = b) (h : wpList P ops Q rest (putsL a ((d, .bool b) :: l)) w) :
    wpList P ops Q (⟨some d, .binOp .eql xt x y yt, ty, p, af, none⟩ :: rest) (putsL a l) w := by
  subst hb
  refine op_seql hx hy (fun hh => ?_) (fun hh => ?_)
  · rw [decide_eq_true hh] at h; exact h
  · rw [decide_eq_false hh] at h; exact h
theorem op_sneqb {s t : List UInt8} {b : Bool} (hx : (putsL a l).eval x = .string (bs s)) (hy : (putsL a l).eval y = .string (bs t)) (hb : decide (s ≠ t) = b) (h : wpList P ops Q rest (putsL a ((d, .bool b) :: l)) w) :
    wpList P ops Q (⟨some d, .binOp .neq xt x y yt, ty, p, af, none⟩ :: rest) (putsL a l) w := by
  subst hb
  refine op_sneq hx hy (fun hh => ?_) (fun hh => ?_)
  · rw [decide_eq_true hh] at h; exact h
  · rw [decide_eq_false (by simpa using hh)] at h; exact h
theorem bool_eqv {b c : Bool} (h : b = c) : Value.bool b = Value.bool c := by rw [h]
end
/-- No chain. -/
def noChain (N : Nat) : Chain := ⟨[], fun _ => N⟩
/-- A chain of one operation, whose value lies in slot d. -/
def oneChain (i d : Nat) : Chain := ⟨[i], fun _ => d⟩
theorem grown_refl (w : World) (row : Option Nat) : w.grownBy w row := ⟨rfl, rfl, rfl, Nat.le_refl _, fun _ _ _ => rfl⟩
theorem noChain_ok {ol : List Oper} {N : Nat} (h : dstNB ol N = true) : (noChain N).okB ol = true := by
  simp only [Chain.okB, noChain, Chain.has, Bool.and_eq_true, List.all_eq_true, List.length_nil]
  refine ⟨⟨⟨by simp, fun i hi => ?_⟩, by simp⟩, by simp⟩
  have hi' : i < ol.length := by simpa using hi
  rw [List.getElem?_eq_getElem hi']
  have h1 := List.all_eq_true.1 h ol[i] (List.getElem_mem hi')
  cases hd : ol[i].dst with
  | none => simp [hd]
  | some d =>
    simp only [hd] at h1
    have h1 : d < N := by rw [Nat.blt_eq] at h1; exact h1
    have : d ≠ N := Nat.ne_of_lt h1
    simp [hd, this]
section
variable {P : Program} {ol : List Oper} {Q : Exit → Act → World → Prop} {Φ : Nat → Value → World → Prop} {a0 : Act} {N : Nat} {w : World} {l : List (Nat × Value)} {id : Nat}
/-- A region in any order, nothing of which writes what was there. -/
theorem reg_quiet (hm : P.follows .mixedOrders = true) (hlex : lexB' ol = true) (hdn : dstNB ol N = true) (hdst : dstsB ol = true) (hN : a0.tmps.size = N)
    (hΦ : ∀ j u w1 w2, w1.grownBy w2 none → Φ j u w1 → Φ j u w2)
    (obN : ∀ i o, ol[i]? = some o → ObN P ol Φ (putsL a0 l) N w (fun w1 w2 => w1.grownBy w2 none) i o)
    (fin : ∀ a' w', a'.tmps.size = N → a'.defers = a0.defers → (∀ t, (ol.all fun o => o.dst != some t) = true → a'.tmps.getD t undef = (putsL a0 l).tmps.getD t undef) →
      (∀ j oj d, ol[j]? = some oj → oj.dst = some d → Φ j (a'.tmps.getD d undef) w') → w.grownBy w' none → Q .normal (putsL a' []) w') :
    (Code.region id ol.toArray true).wp P Q (putsL a0 l) w :=
  reg_draw (C := fun _ _ _ => True) (ch := noChain N) (R := fun w1 w2 => w1.grownBy w2 none) hm hlex hdn hdst (noChain_ok hdn) (fun w => grown_refl w none) (fun _ _ _ => grown_trans) (fun _ _ h => h) hΦ (fun _ _ _ _ _ h => h) hN trivial
    (fun i o hi _ => obN i o hi) (fun c i o hc _ => by simp [noChain] at hc) (fun a' w' h1 h2 h3 h4 _ h5 => fin a' w' h1 h2 h3 h4 h5)
/-- A region in any order, one operation of which writes one's own row. -/
theorem reg_append (row : Option Nat) (C0 : World → Prop) (C1 : Value → World → Prop) (i d : Nat) (hm : P.follows .mixedOrders = true) (hlex : lexB' ol = true) (hdn : dstNB ol N = true) (hdst : dstsB ol = true) (hch : (oneChain i d).okB ol = true) (hN : a0.tmps.size = N)
    (hΦ : ∀ j u w1 w2, w1.grownBy w2 row → Φ j u w1 → Φ j u w2)
    (hC0 : ∀ w1 w2, w1.grownBy w2 none → C0 w1 → C0 w2) (hC1 : ∀ u w1 w2, w1.grownBy w2 none → C1 u w1 → C1 u w2) (h0 : C0 w)
    (obN : ∀ j o, ol[j]? = some o → j ≠ i → ObN P ol Φ (putsL a0 l) N w (fun w1 w2 => w1.grownBy w2 row) j o)
    (obC : ∀ o, ol[i]? = some o → ObC P ol Φ (fun c v w => if c = 0 then C0 w else C1 v w) (oneChain i d) (putsL a0 l) N w (fun w1 w2 => w1.grownBy w2 row) 0 i o)
    (fin : ∀ a' w', a'.tmps.size = N → a'.defers = a0.defers → (∀ t, (ol.all fun o => o.dst != some t) = true → a'.tmps.getD t undef = (putsL a0 l).tmps.getD t undef) →
      (∀ j oj d, ol[j]? = some oj → oj.dst = some d → Φ j (a'.tmps.getD d undef) w') → C1 (a'.tmps.getD d undef) w' → w.grownBy w' row → Q .normal (putsL a' []) w') :
    (Code.region id ol.toArray true).wp P Q (putsL a0 l) w :=
  reg_draw (C := fun c v w => if c = 0 then C0 w else C1 v w) (ch := oneChain i d) (R := fun w1 w2 => w1.grownBy w2 row) hm hlex hdn hdst hch (fun w => grown_refl w row) (fun _ _ _ => grown_trans) (fun _ _ h => grown_any h row) hΦ
    (fun c u w1 w2 hg h => by by_cases hc : c = 0
                              · simp only [hc, if_true] at h ⊢; exact hC0 _ _ hg h
                              · simp only [hc, if_false] at h ⊢; exact hC1 _ _ _ hg h) hN (by simp [h0])
    (fun j o hj hi => obN j o hj (fun e => by subst e; simp [Chain.has, oneChain] at hi))
    (fun c j o hc hj => by
      have : c = 0 ∧ j = i := by
        rcases c with _ | c
        · simp [oneChain] at hc; exact ⟨rfl, hc.symm⟩
        · simp [oneChain] at hc
      obtain ⟨rfl, rfl⟩ := this
      exact obC o hj)
    (fun a' w' h1 h2 h3 h4 h5 h6 => fin a' w' h1 h2 h3 h4 (by simpa [oneChain] using h5) h6)
end
/-- What each operation leaves stays so. -/
def StL (row : Option Nat) : List (Value → World → Prop) → Prop
  | [] => True
  | φ :: L => (∀ u w1 w2, w1.grownBy w2 row → φ u w1 → φ u w2) ∧ StL row L
def phiL (L : List (Value → World → Prop)) : Nat → Value → World → Prop := fun j v w => (L.getD j (fun _ _ => True)) v w
theorem StL.get {row : Option Nat} : ∀ {L : List (Value → World → Prop)}, StL row L → ∀ j u w1 w2, w1.grownBy w2 row → phiL L j u w1 → phiL L j u w2
  | [], _, j, _, _, _, _, _ => by simp [phiL]
  | φ :: L, h, 0, u, w1, w2, E, hp => h.1 u w1 w2 E hp
  | φ :: L, h, j + 1, u, w1, w2, E, hp => StL.get h.2 j u w1 w2 E hp
theorem StL.nil (row : Option Nat) : StL row [] := trivial
theorem StL.cons {row : Option Nat} {φ : Value → World → Prop} {L : List (Value → World → Prop)} (h : ∀ u w1 w2, w1.grownBy w2 row → φ u w1 → φ u w2) (h' : StL row L) : StL row (φ :: L) := ⟨h, h'⟩
theorem StL.eq {row : Option Nat} {v : Value} {L : List (Value → World → Prop)} (h' : StL row L) : StL row ((fun u _ => u = v) :: L) := ⟨fun _ _ _ _ h => h, h'⟩
def ObL (P : Program) (ol : List Oper) (Φ : Nat → Value → World → Prop) (a0 : Act) (N : Nat) (w0 : World) (R : World → World → Prop) (s : Nat) : Nat → List Oper → Prop
  | _, [] => True
  | i, o :: r => (i ≠ s → ObN P ol Φ a0 N w0 R i o) ∧ ObL P ol Φ a0 N w0 R s (i + 1) r
section
variable {P : Program} {ol : List Oper} {Φ : Nat → Value → World → Prop} {a0 : Act} {N : Nat} {w0 : World} {R : World → World → Prop} {s : Nat}
theorem ObL.nil {i : Nat} : ObL P ol Φ a0 N w0 R s i [] := trivial
theorem ObL.cons {i : Nat} {o : Oper} {r : List Oper} (h : ObN P ol Φ a0 N w0 R i o) (h' : ObL P ol Φ a0 N w0 R s (i + 1) r) : ObL P ol Φ a0 N w0 R s i (o :: r) := ⟨fun _ => h, h'⟩
theorem ObL.pass {o : Oper} {r : List Oper} (h' : ObL P ol Φ a0 N w0 R s (s + 1) r) : ObL P ol Φ a0 N w0 R s s (o :: r) := ⟨fun h => absurd rfl h, h'⟩
theorem ObL.getx : ∀ {l : List Oper} {i : Nat}, ObL P ol Φ a0 N w0 R s i l → ∀ j o, l[j]? = some o → i + j ≠ s → ObN P ol Φ a0 N w0 R (i + j) o
  | [], _, _, j, o, h, _ => by simp at h
  | o' :: r, i, h, 0, o, hj, hs => by simp at hj; subst hj; exact h.1 hs
  | o' :: r, i, h, j + 1, o, hj, hs => by
    have := ObL.getx h.2 j o (by simpa using hj) (by omega)
    rwa [show i + 1 + j = i + (j + 1) by omega] at this
theorem ObL.get {l : List Oper} (h : ObL P ol Φ a0 N w0 R s 0 l) (hs : Nat.ble l.length s = true) : ∀ j o, l[j]? = some o → ObN P ol Φ a0 N w0 R j o := fun j o hj => by
  have hlt : j < l.length := (List.getElem?_eq_some_iff.1 hj).1
  have := ObL.getx h j o hj (by have := Nat.le_of_ble_eq_true hs; omega)
  rwa [Nat.zero_add] at this
theorem ObL.gets {l : List Oper} (h : ObL P ol Φ a0 N w0 R s 0 l) : ∀ j o, l[j]? = some o → j ≠ s → ObN P ol Φ a0 N w0 R j o := fun j o hj hn => by
  have := ObL.getx h j o hj (by omega)
  rwa [Nat.zero_add] at this
end
/-- What an operation's walk must come to, in such a region. -/
theorem obN_end {Φ : Nat → Value → World → Prop} {i d : Nat} {v : Value} {o : Oper} {P : Program} {ops : Array Oper} {a : Act} {w w' : World} (hd : o.dst = some d) (hv : Φ i v w') (hg : w.grownBy w' none) :
    wpList P ops (fun e a' w' => e = .normal ∧ (∃ d v, o.dst = some d ∧ a' = putsL a [(d, v)] ∧ Φ i v w') ∧ w.grownBy w' none) [] (putsL a [(d, v)]) w' := ⟨rfl, ⟨d, v, hd, rfl, hv⟩, hg⟩
theorem obC_end {Φ : Nat → Value → World → Prop} {C0 : World → Prop} {C1 : Value → World → Prop} {row : Option Nat} {N i d : Nat} {v : Value} {o : Oper} {P : Program} {ops : Array Oper} {a : Act} {w w' : World} (hN : a.tmps.size = N) (hdN : Nat.blt d N = true) (hd : o.dst = some d) (hv : Φ i v w') (h1 : C1 v w') (hg : w.grownBy w' row) :
    wpList P ops (fun e a' w' => e = .normal ∧ ((o.dst = none ∧ a' = a) ∨ ∃ d v, o.dst = some d ∧ a' = putsL a [(d, v)] ∧ Φ i v w') ∧ (if 0 + 1 = 0 then C0 w' else C1 (a'.tmps.getD ((oneChain i d).slot (0 + 1)) undef) w') ∧ w.grownBy w' row) [] (putsL a [(d, v)]) w' :=
  ⟨rfl, .inr ⟨d, v, hd, rfl, hv⟩, by
    have : (putsL a [(d, v)]).tmps.getD d undef = v := get_put_eq (by rw [Nat.blt_eq] at hdN; rw [hN]; exact hdN)
    simp only [oneChain, this]
    exact h1, hg⟩
end Go.Gx
