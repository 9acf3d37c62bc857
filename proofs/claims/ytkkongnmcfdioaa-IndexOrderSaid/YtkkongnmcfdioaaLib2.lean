/- Small laws for walks, the second part: numbers, texts, memory that is read, memory of one's own: no condition beyond those each law states. -/
import Derived.Test.YtkkongnmcfdioaaLib1
import Derived.Deep.AppendSrc
namespace Go.Gx
open Go.RowKit

def bs (l : List UInt8) : ByteArray := ⟨l.toArray⟩
def u8v (b : UInt8) : Value := .int .u8 (b.toNat : Int)
def ptr (b off : Nat) : Value := .pointer (some ⟨b, off, none⟩)
theorem bs_size (l : List UInt8) : (bs l).size = l.length := by simp [bs, ByteArray.size]
theorem bs_data (l : List UInt8) : (bs l).data.toList = l := by simp [bs]
theorem bs_of (s : ByteArray) : s = bs s.data.toList := by cases s; simp [bs]
theorem bs_inj {a b : List UInt8} : bs a = bs b ↔ a = b := by
  constructor
  · intro h; have := congrArg (fun s : ByteArray => s.data.toList) h; simpa [bs] using this
  · rintro rfl; rfl
theorem toList_loop (s : ByteArray) : ∀ (n i : Nat) (r : List UInt8), s.size - i = n → ByteArray.toList.loop s i r = r.reverse ++ s.data.toList.drop i
  | 0, i, r, h => by
    unfold ByteArray.toList.loop
    have : ¬ i < s.size := by omega
    rw [if_neg this, List.drop_of_length_le (by have : s.data.size = s.size := rfl; simp; omega)]
    simp
  | n + 1, i, r, h => by
    unfold ByteArray.toList.loop
    have hi : i < s.size := by omega
    have hi' : i < s.data.toList.length := by have : s.data.size = s.size := rfl; simp; omega
    rw [if_pos hi, toList_loop s n (i + 1) _ (by omega), List.drop_eq_getElem_cons hi']
    have hi2 : i < s.data.size := hi
    have e : s.data.toList[i] = s.get! i := by
      cases s; rename_i D; simp only [ByteArray.get!] ; rw [getElem!_pos D i hi2]; simp
    rw [e]; simp
theorem bs_toList (l : List UInt8) : (bs l).toList = l := by
  unfold ByteArray.toList
  rw [toList_loop (bs l) _ 0 [] rfl]
  simp [bs]
theorem bs_eq (a b : List UInt8) : ((bs a).toList == (bs b).toList) = decide (a = b) := by
  rw [bs_toList, bs_toList, Bool.eq_iff_iff]; simp

section
variable {P : Program} {Q : Exit → Act → World → Prop} {a : Act} {w w' : World} {l : List (Nat × Value)} {ops : Array Oper} {rest : List Oper}
variable {d ty xt yt : Nat} {p : String} {af : Array Edge} {x y z : Operand} {v u : Value} {k : IntKind} {m n r : Int}

/-! ### numbers -/
theorem op_bin {op : BinOp} {k' : IntKind} (hx : (putsL a l).eval x = .int k m) (hy : (putsL a l).eval y = .int k' n) (hb : (binOp op xt (.int k m) (.int k' n)).run P w = .ok v w) (h : wpList P ops Q rest (putsL a ((d, v) :: l)) w) :
    wpList P ops Q (⟨some d, .binOp op xt x y yt, ty, p, af, none⟩ :: rest) (putsL a l) w :=
  op_gen rfl (by simp only [execOp, hx, hy, eqGuard_at_int, Sem.run_bind, Sem.run_pure, Result.andThen_ok, hb]) h
theorem op_lss (hx : (putsL a l).eval x = .int k m) (hy : (putsL a l).eval y = .int k n) (ht : m < n → wpList P ops Q rest (putsL a ((d, .bool true) :: l)) w) (hf : ¬ m < n → wpList P ops Q rest (putsL a ((d, .bool false) :: l)) w) :
    wpList P ops Q (⟨some d, .binOp .lss xt x y yt, ty, p, af, none⟩ :: rest) (putsL a l) w := by
  by_cases h : m < n
  · exact op_bin (v := .bool true) hx hy (by rw [binOp_lss]; simp [h]) (ht h)
  · exact op_bin (v := .bool false) hx hy (by rw [binOp_lss]; simp [h]) (hf h)
theorem op_leq (hx : (putsL a l).eval x = .int k m) (hy : (putsL a l).eval y = .int k n) (ht : m ≤ n → wpList P ops Q rest (putsL a ((d, .bool true) :: l)) w) (hf : ¬ m ≤ n → wpList P ops Q rest (putsL a ((d, .bool false) :: l)) w) :
    wpList P ops Q (⟨some d, .binOp .leq xt x y yt, ty, p, af, none⟩ :: rest) (putsL a l) w := by
  by_cases h : m ≤ n
  · exact op_bin (v := .bool true) hx hy (by rw [binOp_leq]; simp [h]) (ht h)
  · exact op_bin (v := .bool false) hx hy (by rw [binOp_leq]; simp [h]) (hf h)
theorem op_gtr (hx : (putsL a l).eval x = .int k m) (hy : (putsL a l).eval y = .int k n) (ht : n < m → wpList P ops Q rest (putsL a ((d, .bool true) :: l)) w) (hf : ¬ n < m → wpList P ops Q rest (putsL a ((d, .bool false) :: l)) w) :
    wpList P ops Q (⟨some d, .binOp .gtr xt x y yt, ty, p, af, none⟩ :: rest) (putsL a l) w := by
  by_cases h : n < m
  · exact op_bin (v := .bool true) hx hy (by rw [binOp_gtr]; simp [h]) (ht h)
  · exact op_bin (v := .bool false) hx hy (by rw [binOp_gtr]; simp [h]; try omega) (hf h)
theorem op_geq (hx : (putsL a l).eval x = .int k m) (hy : (putsL a l).eval y = .int k n) (ht : n ≤ m → wpList P ops Q rest (putsL a ((d, .bool true) :: l)) w) (hf : ¬ n ≤ m → wpList P ops Q rest (putsL a ((d, .bool false) :: l)) w) :
    wpList P ops Q (⟨some d, .binOp .geq xt x y yt, ty, p, af, none⟩ :: rest) (putsL a l) w := by
  by_cases h : n ≤ m
  · exact op_bin (v := .bool true) hx hy (by rw [binOp_geq]; simp [h]) (ht h)
  · exact op_bin (v := .bool false) hx hy (by rw [binOp_geq]; simp [h]; try omega) (hf h)
theorem op_eql (hx : (putsL a l).eval x = .int k m) (hy : (putsL a l).eval y = .int k n) (ht : m = n → wpList P ops Q rest (putsL a ((d, .bool true) :: l)) w) (hf : ¬ m = n → wpList P ops Q rest (putsL a ((d, .bool false) :: l)) w) :
    wpList P ops Q (⟨some d, .binOp .eql xt x y yt, ty, p, af, none⟩ :: rest) (putsL a l) w := by
  by_cases h : m = n
  · exact op_bin (v := .bool true) hx hy (by rw [binOp_eql]; simp [h]) (ht h)
  · exact op_bin (v := .bool false) hx hy (by rw [binOp_eql]; simp [h]) (hf h)
theorem op_neq (hx : (putsL a l).eval x = .int k m) (hy : (putsL a l).eval y = .int k n) (ht : m ≠ n → wpList P ops Q rest (putsL a ((d, .bool true) :: l)) w) (hf : m = n → wpList P ops Q rest (putsL a ((d, .bool false) :: l)) w) :
    wpList P ops Q (⟨some d, .binOp .neq xt x y yt, ty, p, af, none⟩ :: rest) (putsL a l) w := by
  by_cases h : m = n
  · exact op_bin (v := .bool false) hx hy (by rw [binOp_neq]; simp [h]) (hf h)
  · exact op_bin (v := .bool true) hx hy (by rw [binOp_neq]; simp [h]) (ht h)
theorem op_add (hx : (putsL a l).eval x = .int k m) (hy : (putsL a l).eval y = .int k n) (hr : k.wrap (m + n) = r) (h : wpList P ops Q rest (putsL a ((d, .int k r) :: l)) w) :
    wpList P ops Q (⟨some d, .binOp .add xt x y yt, ty, p, af, none⟩ :: rest) (putsL a l) w :=
  op_bin hx hy (by rw [binOp_add]; simp [Op.intArith, hr]) h
theorem op_sub (hx : (putsL a l).eval x = .int k m) (hy : (putsL a l).eval y = .int k n) (hr : k.wrap (m - n) = r) (h : wpList P ops Q rest (putsL a ((d, .int k r) :: l)) w) :
    wpList P ops Q (⟨some d, .binOp .sub xt x y yt, ty, p, af, none⟩ :: rest) (putsL a l) w :=
  op_bin hx hy (by rw [binOp_sub]; simp [Op.intArith, hr]) h
theorem op_mul (hx : (putsL a l).eval x = .int k m) (hy : (putsL a l).eval y = .int k n) (hr : k.wrap (m * n) = r) (h : wpList P ops Q rest (putsL a ((d, .int k r) :: l)) w) :
    wpList P ops Q (⟨some d, .binOp .mul xt x y yt, ty, p, af, none⟩ :: rest) (putsL a l) w :=
  op_bin hx hy (by rw [binOp_mul]; simp [Op.intArith, hr]) h
theorem op_quo (hx : (putsL a l).eval x = .int k m) (hy : (putsL a l).eval y = .int k n) (hn : n ≠ 0) (hr : k.wrap (m.tdiv n) = r) (h : wpList P ops Q rest (putsL a ((d, .int k r) :: l)) w) :
    wpList P ops Q (⟨some d, .binOp .quo xt x y yt, ty, p, af, none⟩ :: rest) (putsL a l) w :=
  op_bin hx hy (by rw [binOp_quo]; simp [Op.intDiv, hr, hn]) h
theorem op_rem (hx : (putsL a l).eval x = .int k m) (hy : (putsL a l).eval y = .int k n) (hn : n ≠ 0) (hr : m.tmod n = r) (h : wpList P ops Q rest (putsL a ((d, .int k r) :: l)) w) :
    wpList P ops Q (⟨some d, .binOp .rem xt x y yt, ty, p, af, none⟩ :: rest) (putsL a l) w :=
  op_bin hx hy (by rw [binOp_rem]; simp [Op.intDiv, hr, hn]) h
theorem op_and (hx : (putsL a l).eval x = .int k m) (hy : (putsL a l).eval y = .int k n) (hr : bits .and k m n = r) (h : wpList P ops Q rest (putsL a ((d, .int k r) :: l)) w) :
    wpList P ops Q (⟨some d, .binOp .and xt x y yt, ty, p, af, none⟩ :: rest) (putsL a l) w :=
  op_bin hx hy (by rw [binOp_and, intBits_and, hr]; rfl) h
theorem op_or (hx : (putsL a l).eval x = .int k m) (hy : (putsL a l).eval y = .int k n) (hr : bits .or k m n = r) (h : wpList P ops Q rest (putsL a ((d, .int k r) :: l)) w) :
    wpList P ops Q (⟨some d, .binOp .or xt x y yt, ty, p, af, none⟩ :: rest) (putsL a l) w :=
  op_bin hx hy (by rw [binOp_or, intBits_or, hr]; rfl) h
theorem op_xor (hx : (putsL a l).eval x = .int k m) (hy : (putsL a l).eval y = .int k n) (hr : bits .xor k m n = r) (h : wpList P ops Q rest (putsL a ((d, .int k r) :: l)) w) :
    wpList P ops Q (⟨some d, .binOp .xor xt x y yt, ty, p, af, none⟩ :: rest) (putsL a l) w :=
  op_bin hx hy (by rw [binOp_xor, intBits_xor, hr]; rfl) h
theorem op_shl {k' : IntKind} (hx : (putsL a l).eval x = .int k m) (hy : (putsL a l).eval y = .int k' n) (h0 : 0 ≤ n) (hr : k.wrap (m * 2 ^ (min n.toNat k.bits)) = r) (h : wpList P ops Q rest (putsL a ((d, .int k r) :: l)) w) :
    wpList P ops Q (⟨some d, .binOp .shl xt x y yt, ty, p, af, none⟩ :: rest) (putsL a l) w :=
  op_bin hx hy (by
    have h0' : ¬ n < 0 := by omega
    subst hr
    rw [binOp_shl]
    simp only [Op.shift, h0', if_false]
    rfl) h
theorem op_shr {k' : IntKind} (hx : (putsL a l).eval x = .int k m) (hy : (putsL a l).eval y = .int k' n) (h0 : 0 ≤ n) (hr : m.fdiv (2 ^ (min n.toNat k.bits)) = r) (h : wpList P ops Q rest (putsL a ((d, .int k r) :: l)) w) :
    wpList P ops Q (⟨some d, .binOp .shr xt x y yt, ty, p, af, none⟩ :: rest) (putsL a l) w :=
  op_bin hx hy (by
    have h0' : ¬ n < 0 := by omega
    subst hr
    rw [binOp_shr]
    simp only [Op.shift, h0', if_false]
    rfl) h
theorem op_neg {t : Nat} (hx : (putsL a l).eval x = .int k m) (hr : k.wrap (0 - m) = r) (h : wpList P ops Q rest (putsL a ((d, .int k r) :: l)) w) :
    wpList P ops Q (⟨some d, .unOp .neg t x, ty, p, af, none⟩ :: rest) (putsL a l) w :=
  op_gen rfl (by subst hr; simp [execOp, hx, Op.unary, Op.intArith]) h
theorem op_conv {src dst : Nat} {k' : IntKind} (hx : (putsL a l).eval x = .int k m) (hs : (P.underlying src).isSome = true) (hd : P.underlying dst = some (.int k')) (hr : k'.wrap m = r) (h : wpList P ops Q rest (putsL a ((d, .int k' r) :: l)) w) :
    wpList P ops Q (⟨some d, .convert src dst x, ty, p, af, none⟩ :: rest) (putsL a l) w :=
  op_gen rfl (by
    obtain ⟨ds, hd'⟩ := Option.isSome_iff_exists.mp hs
    simp [execOp, hx, convert, run_underlying hd', run_underlying hd, Conv.intToInt, hr]) h
theorem run_equalIn_bool (n : Nat) (t : Nat) (ht : P.underlying t = some .bool) (b c : Bool) : (Op.equalIn (n + 1) t (.bool b) (.bool c)).run P w = .ok (b == c) w := by
  simp [Op.equalIn, run_underlying ht]
theorem run_equal_bool (t : Nat) (ht : P.underlying t = some .bool) (b c : Bool) : (Op.equal t (.bool b) (.bool c)).run P w = .ok (b == c) w := by
  exact run_equalIn_bool 9999 t ht b c
theorem op_eqb {b c : Bool} (ht : P.underlying xt = some .bool) (hx : (putsL a l).eval x = .bool b) (hy : (putsL a l).eval y = .bool c) (h : wpList P ops Q rest (putsL a ((d, .bool (b == c)) :: l)) w) :
    wpList P ops Q (⟨some d, .binOp .eql xt x y yt, ty, p, af, none⟩ :: rest) (putsL a l) w :=
  op_gen rfl (by
    have e : binOp .eql xt (.bool b) (.bool c) = (do pure (.bool (← Op.equal xt (.bool b) (.bool c)))) := rfl
    simp only [execOp, hx, hy, eqGuard_at_bool, e, Sem.run_bind, Sem.run_pure, Result.andThen_ok, run_equal_bool xt ht]) h
theorem op_neb {b c : Bool} (ht : P.underlying xt = some .bool) (hx : (putsL a l).eval x = .bool b) (hy : (putsL a l).eval y = .bool c) (h : wpList P ops Q rest (putsL a ((d, .bool (b != c)) :: l)) w) :
    wpList P ops Q (⟨some d, .binOp .neq xt x y yt, ty, p, af, none⟩ :: rest) (putsL a l) w :=
  op_gen rfl (by
    have e : binOp .neq xt (.bool b) (.bool c) = (do pure (.bool (!(← Op.equal xt (.bool b) (.bool c))))) := rfl
    simp only [execOp, hx, hy, eqGuard_at_bool, e, Sem.run_bind, Sem.run_pure, Result.andThen_ok, run_equal_bool xt ht]
    rfl) h

/-! ### texts -/
theorem op_seql {s t : List UInt8} (hx : (putsL a l).eval x = .string (bs s)) (hy : (putsL a l).eval y = .string (bs t)) (ht : s = t → wpList P ops Q rest (putsL a ((d, .bool true) :: l)) w) (hf : s ≠ t → wpList P ops Q rest (putsL a ((d, .bool false) :: l)) w) :
    wpList P ops Q (⟨some d, .binOp .eql xt x y yt, ty, p, af, none⟩ :: rest) (putsL a l) w := by
  have hb := bs_eq s t
  by_cases h : s = t
  · exact op_gen (v := .bool true) rfl (by simp [execOp, hx, hy, eqGuard_at_string, binOp, Op.stringOp, hb, h]) (ht h)
  · exact op_gen (v := .bool false) rfl (by simp [execOp, hx, hy, eqGuard_at_string, binOp, Op.stringOp, hb, h]) (hf h)
theorem op_sneq {s t : List UInt8} (hx : (putsL a l).eval x = .string (bs s)) (hy : (putsL a l).eval y = .string (bs t)) (ht : s ≠ t → wpList P ops Q rest (putsL a ((d, .bool true) :: l)) w) (hf : s = t → wpList P ops Q rest (putsL a ((d, .bool false) :: l)) w) :
    wpList P ops Q (⟨some d, .binOp .neq xt x y yt, ty, p, af, none⟩ :: rest) (putsL a l) w := by
  have hb := bs_eq s t
  by_cases h : s = t
  · exact op_gen (v := .bool false) rfl (by simp [execOp, hx, hy, eqGuard_at_string, binOp, Op.stringOp, hb, h]) (hf h)
  · exact op_gen (v := .bool true) rfl (by simp [execOp, hx, hy, eqGuard_at_string, binOp, Op.stringOp, hb, h]) (ht h)
theorem op_len_str {t : Nat} {s : List UInt8} (ht : P.underlying t = some .string) (hx : (putsL a l).eval x = .string (bs s)) (h : wpList P ops Q rest (putsL a ((d, .int .i64 (s.length : Int)) :: l)) w) :
    wpList P ops Q (⟨some d, .call ⟨.builtin .len, #[x], #[t]⟩, ty, p, af, none⟩ :: rest) (putsL a l) w :=
  op_gen rfl (by simp [execOp, hx, resolve, invoke, builtin, Builtin.len_, run_underlying ht, goInt, bs_size]) h
theorem op_index_str {s : List UInt8} {b : UInt8} {i : Int} (ht : P.underlying xt = some .string) (hx : (putsL a l).eval x = .string (bs s)) (hy : (putsL a l).eval y = .int k i) (h0 : 0 ≤ i) (hb : s[i.toNat]? = some b) (h : wpList P ops Q rest (putsL a ((d, u8v b) :: l)) w) :
    wpList P ops Q (⟨some d, .index xt x y, ty, p, af, none⟩ :: rest) (putsL a l) w :=
  op_gen rfl (by
    have hq : (bs s)[i.toNat]? = some b := by
      obtain ⟨hlt, he⟩ := List.getElem?_eq_some_iff.1 hb
      have hlt' : i.toNat < (bs s).size := by rw [bs_size]; exact hlt
      rw [getElem?_pos (bs s) i.toNat hlt']
      congr 1
    simp only [execOp, hx, hy, Instr.index, asIntOf, Sem.run_bind, Sem.run_pure, Result.andThen_ok, run_underlying ht, h0, if_true, hq, u8v]) h

/-! ### a call -/
def callOk (P : Program) (f : FuncId) : Bool := match P.funcs[f]? with | some fn => fn.name != "runtime.NumGoroutine" && fn.body.isSome | none => false
theorem run_callFunc {f : FuncId} (hf : callOk P f = true) (args : Array Value) : (callFunc f args).run P w = .ok (.enter f args) w := by
  unfold callOk at hf
  cases hq : P.funcs[f]? with
  | none => rw [hq] at hf; cases hf
  | some fn =>
    rw [hq] at hf
    simp only [Bool.and_eq_true, bne_iff_ne] at hf
    have hb : fn.body.isNone = false := by cases hc : fn.body <;> simp_all
    have hn : (fn.name == "runtime.NumGoroutine") = false := by simpa using hf.1
    unfold callFunc
    rw [Sem.run_bind, show (program).run P w = .ok P w from rfl]
    simp only [Result.andThen_ok, hq, hn, hb, Bool.false_eq_true, if_false, Sem.run_pure]
/-- A call that hands something back. -/
def Ret (P : Program) (f : FuncId) (args : Array Value) (w : World) (R : Value → World → Prop) : Prop := Calls P f args w fun e w' => ∃ v, e = .returned v ∧ R v w'
theorem Ret.mono {f : FuncId} {args : Array Value} {R R' : Value → World → Prop} (h : Ret P f args w R) (hr : ∀ v w', R v w' → R' v w') : Ret P f args w R' :=
  Calls.mono h fun _ w' ⟨v, he, hv⟩ => ⟨v, he, hr v w' hv⟩
theorem op_call {f : FuncId} {as : Array Operand} {ts : Array Nat} {vs : Array Value} {R : Value → World → Prop} (hf : callOk P f = true) (hm : as.map (putsL a l).eval = vs) (hc : Ret P f vs w R)
    (h : ∀ v w', R v w' → wpList P ops Q rest (putsL a ((d, v) :: l)) w') : wpList P ops Q (⟨some d, .call ⟨.value (.func f), as, ts⟩, ty, p, af, none⟩ :: rest) (putsL a l) w :=
  wpList_plain rfl fun K hK => by
    unfold Oper.wp
    have he : (execOp (putsL a l).eval ⟨some d, .call ⟨.value (.func f), as, ts⟩, ty, p, af, none⟩).run P w = .ok (.enter f vs) w := by
      show (callFunc f (#[] ++ as.map (putsL a l).eval ++ #[])).run P w = _
      rw [hm, run_callFunc hf]; simp
    rw [he]
    refine Calls.mono hc ?_
    rintro e w' ⟨v, rfl, hv⟩
    exact hK _ _ (h v w' hv)
theorem op_callv {f : FuncId} {as : Array Operand} {ts : Array Nat} {vs fs cs : Array Value} {R : Value → World → Prop} (hx : (putsL a l).eval x = .func (.func f) fs cs) (hf : callOk P f = true) (hm : as.map (putsL a l).eval = vs) (hc : Ret P f (fs ++ vs ++ cs) w R)
    (h : ∀ v w', R v w' → wpList P ops Q rest (putsL a ((d, v) :: l)) w') : wpList P ops Q (⟨some d, .call ⟨.value x, as, ts⟩, ty, p, af, none⟩ :: rest) (putsL a l) w :=
  wpList_plain rfl fun K hK => by
    unfold Oper.wp
    have he : (execOp (putsL a l).eval ⟨some d, .call ⟨.value x, as, ts⟩, ty, p, af, none⟩).run P w = .ok (.enter f (fs ++ vs ++ cs)) w := by
      simp only [execOp, resolve, hx, Deferred.ofValue, invoke, Sem.run_bind, Sem.run_pure, Result.andThen_ok, hm, run_callFunc hf]
    rw [he]
    refine Calls.mono hc ?_
    rintro e w' ⟨v, rfl, hv⟩
    exact hK _ _ (h v w' hv)

/-! ### a loop -/
theorem loop_ghost {σ : Type} {c : Code} (I : σ → Act → World → Prop) (μ : σ → Nat) (s0 : σ) (N : Nat) {a : Act} {w : World} (hN : a.tmps.size = N) (hd : a.defers = []) (h0 : I s0 a w)
    (round : ∀ s a w, a.tmps.size = N → a.defers = [] → I s a w → c.wp P (Exit.then (fun a' w' => ∃ s', a'.tmps.size = N ∧ a'.defers = [] ∧ I s' a' w' ∧ μ s' < μ s) Q) a w) : (Code.loop c).wp P Q a w := by
  intro b k cs
  have key : ∀ (n : Nat) (s : σ) (a : Act) (w : World), μ s = n → a.tmps.size = N → a.defers = [] → I s a w →
      ∃ e a' w', Q e a' w' ∧ Arrives P (lone (b.at a (.code c :: .inLoop c :: k)) cs w) b k cs e a' w' := by
    intro n
    induction n using Nat.strongRecOn with
    | _ n ih =>
      intro s a w hn hN hd hI
      obtain ⟨e, a₁, w₁, hq, harr⟩ := round s a w hN hd hI b (.inLoop c :: k) cs
      cases e with
      | normal =>
        obtain ⟨s', hN', hd', hI', hlt⟩ := hq
        obtain ⟨e₂, a₂, w₂, hq₂, harr₂⟩ := ih (μ s') (hn ▸ hlt) s' a₁ w₁ rfl hN' hd' hI'
        exact ⟨e₂, a₂, w₂, hq₂, .of_steps (Steps.trans harr (.one step_inLoop)) harr₂⟩
      | exit id => exact ⟨_, a₁, w₁, hq, .pass (x := .inLoop c) rfl (fun _ _ => .inl (by simp)) harr⟩
      | goto l => exact ⟨_, a₁, w₁, hq, .pass (x := .inLoop c) rfl (fun _ _ => .inl (by simp)) harr⟩
      | ret => exact ⟨_, a₁, w₁, hq, .pass (x := .inLoop c) rfl (fun _ _ => .inl (by simp)) harr⟩
      | panic ch => exact ⟨_, a₁, w₁, hq, .pass (x := .inLoop c) rfl (fun _ _ => .inl (by simp)) harr⟩
      | outgrown => exact ⟨_, a₁, w₁, hq, .pass (x := .inLoop c) rfl (fun _ _ => .inl (by simp)) harr⟩
  obtain ⟨e, a', w', hq, harr⟩ := key _ s0 a w rfl hN hd h0
  exact ⟨e, a', w', hq, .of_steps (.one step_loop) harr⟩
theorem loop_m {c : Code} {N : Nat} (I : Nat → Act → World → Prop) (m0 : Nat) (hN : a.tmps.size = N) (hd : a.defers = []) (h0 : I m0 (putsL a l) w)
    (round : ∀ m a w, a.tmps.size = N → a.defers = [] → I m a w → c.wp P (Exit.then (fun a' w' => ∃ m', a'.tmps.size = N ∧ a'.defers = [] ∧ I m' a' w' ∧ m' < m) Q) (putsL a []) w) : (Code.loop c).wp P Q (putsL a l) w :=
  loop_ghost I (fun m => m) m0 N (slN hN) (by rw [putsL_defers, hd]) h0 fun s a w hN hd hI => round s a w hN hd hI
theorem loop_next {I : Nat → Act → World → Prop} {N m : Nat} (m' : Nat) (hN : a.tmps.size = N) (hd : a.defers = []) (h : I m' (putsL a l) w) (hlt : m' < m) :
    Exit.then (fun a' w' => ∃ m', a'.tmps.size = N ∧ a'.defers = [] ∧ I m' a' w' ∧ m' < m) Q .normal (putsL a l) w := ⟨m', slN hN, by rw [putsL_defers, hd], h, hlt⟩
theorem add64 {m n : Int} (h : -9223372036854775808 ≤ m + n ∧ m + n ≤ 9223372036854775807) : IntKind.i64.wrap (m + n) = m + n := by rw [IntKind.wrap_i64]; omega
theorem sub64 {m n : Int} (h : -9223372036854775808 ≤ m - n ∧ m - n ≤ 9223372036854775807) : IntKind.i64.wrap (m - n) = m - n := by rw [IntKind.wrap_i64]; omega
theorem mul64 {m n : Int} (h : -9223372036854775808 ≤ m * n ∧ m * n ≤ 9223372036854775807) : IntKind.i64.wrap (m * n) = m * n := by
  generalize m * n = q at *
  rw [IntKind.wrap_i64]; omega
theorem wrap_u8 {m : Int} (h : 0 ≤ m ∧ m ≤ 255) : IntKind.u8.wrap m = m := by simp only [IntKind.wrap, IntKind.bits, IntKind.signed]; simp; omega
theorem wrap_u16 {m : Int} (h : 0 ≤ m ∧ m ≤ 65535) : IntKind.u16.wrap m = m := by simp only [IntKind.wrap, IntKind.bits, IntKind.signed]; simp; omega
theorem wrap_u64 {m : Int} (h : 0 ≤ m ∧ m ≤ 18446744073709551615) : IntKind.u64.wrap m = m := by simp only [IntKind.wrap, IntKind.bits, IntKind.signed]; simp; omega
theorem wrap_i64 {m : Int} (h : -9223372036854775808 ≤ m ∧ m ≤ 9223372036854775807) : IntKind.i64.wrap m = m := by rw [IntKind.wrap_i64]; omega
end
end Go.Gx
