/- Operations on locks as they are told; a run at one label: nobody waits in a ring. -/
import Derived.Test.YtmhdbphpmgjpcaaB3
namespace Go.Proofs.Ytmhdbphpmgjpcaa
open Go.Gx Go.RowKit
abbrev OpT := Int × Int × (Value × List UInt16) × UInt64 × (Value × List (List UInt8)) × List UInt8
def opK (o : OpT) : Int := o.1
def opN (o : OpT) : Int := o.2.1
def opLv (o : OpT) : Value := o.2.2.1.1
def opL (o : OpT) : List UInt16 := o.2.2.1.2
def opS (o : OpT) : UInt64 := o.2.2.2.1
def opRv (o : OpT) : Value := o.2.2.2.2.1.1
def opR (o : OpT) : List (List UInt8) := o.2.2.2.2.1.2
def opW (o : OpT) : List UInt8 := o.2.2.2.2.2
def dOp : OpT := (0, 0, (.slice none 0 0, []), 0, (.slice none 0 0, []), [])
def cellsOp (o : OpT) : List Value := [.int .i64 (opK o), .int .i64 (opN o), opLv o, .int .u64 ((opS o).toNat : Int), opRv o, .string (bs (opW o))]
theorem el_op {L : List OpT} {e : Int} {i : Nat} (he : e = (i : Int)) (h : i < L.length) : ∀ j u, (cellsOp (L.getD i dOp))[j]? = some u → (L.flatMap cellsOp)[e.toNat * 6 + j]? = some u :=
  Go.Gx.el_flat (f := cellsOp) (d := dOp) (by decide) (fun _ _ => rfl) he h
def ligR (R : List (List UInt8)) : Bool := R.all fun r => decide (r.length ≤ 20)
def lightB (o : OpT) : Bool := mayL (opL o) && decide ((opR o).length ≤ 8) && decide ((opW o).length ≤ 20) && ligR (opR o)
theorem lightB_ok {o : OpT} (h : lightB o = true) : mayL (opL o) = true ∧ (opR o).length ≤ 8 ∧ (opW o).length ≤ 20 ∧ ∀ r ∈ opR o, r.length ≤ 20 := by
  unfold lightB ligR at h
  simp only [Bool.and_eq_true, decide_eq_true_eq, List.all_eq_true] at h
  exact ⟨h.1.1.1, h.1.1.2, h.1.2, h.2⟩
theorem tmod_lt {n : Int} {k : Int} (hk : 0 < k) : -k < n.tmod k ∧ n.tmod k < k := by
  have h1 := Int.tmod_lt_of_pos n hk
  have h2 : -k < n.tmod k := by
    have h3 := Int.tmod_lt_of_pos (-n) hk
    rw [Int.neg_tmod] at h3; omega
  exact ⟨h2, h1⟩
/-- Which of k. -/
def tix (k : Nat) (n : Int) : Nat := ((n.tmod k + k).tmod k).toNat
theorem tix_eq {k : Nat} (hk : 0 < k) (n : Int) : (n.tmod k + k).tmod k = ((tix k n : Nat) : Int) := by
  have h := tmod_lt (n := n) (k := (k : Int)) (by omega)
  have h2 : 0 ≤ (n.tmod k + k).tmod k := Int.tmod_nonneg _ (by omega)
  unfold tix; omega
theorem tix_lt {k : Nat} (hk : 0 < k) (n : Int) : tix k n < k := by
  have h2 := tmod_lt (n := n.tmod k + k) (k := (k : Int)) (by omega)
  have := tix_eq hk n; omega
def opLab (o : OpT) : Value × List UInt16 := (opLv o, opL o)
def opRds (o : OpT) : Value × List (List UInt8) := (opRv o, opR o)
theorem lightB_t {o : OpT} (h : mayL (opL o) = true ∧ (opR o).length ≤ 8 ∧ (opW o).length ≤ 20 ∧ ∀ r ∈ opR o, r.length ≤ 20) : lightB o = true := by
  unfold lightB ligR
  simp only [Bool.and_eq_true, decide_eq_true_eq, List.all_eq_true]
  exact ⟨⟨⟨h.1, h.2.1⟩, h.2.2.1⟩, h.2.2.2⟩
theorem lightB_f {o : OpT} (h : ¬ (mayL (opL o) = true ∧ (opR o).length ≤ 8 ∧ (opW o).length ≤ 20 ∧ ∀ r ∈ opR o, r.length ≤ 20)) : lightB o = false := by
  cases hq : lightB o with
  | false => rfl
  | true => exact absurd (lightB_ok hq) h
theorem le_upto {R : List (List UInt8)} {i m : Nat} (h : ∀ j, j < i → (R.getD j []).length ≤ m) (hi : (R.getD i []).length ≤ m) : ∀ j, j < i + 1 → (R.getD j []).length ≤ m := fun j hj => by
  by_cases hb : j < i
  · exact h j hb
  · obtain rfl : j = i := by omega
    exact hi
theorem mem_getD {α : Type} {l : List α} {x d : α} (h : x ∈ l) : ∃ j, j < l.length ∧ l.getD j d = x := by
  obtain ⟨j, hj, rfl⟩ := List.getElem_of_mem h
  exact ⟨j, hj, by simp [List.getD_eq_getElem?_getD, hj]⟩
/-! at one label -/
def eldB (IN : List Bool) (ST : List Nat) (t j : Nat) : Bool := (List.range j).all fun q => !(decide (q ≠ t) && IN.getD q false) || decide (ST.getD t 0 < ST.getD q 0)
def aloB (IN : List Bool) (t j : Nat) : Bool := (List.range j).all fun q => !(decide (q ≠ t) && IN.getD q false)
section
variable {IN IN2 : List Bool} {ST ST2 : List Nat} {M : TM} {n t j : Nat} {s : Int} {R : List (List UInt8)} {x : List UInt8}
def RInv (IN : List Bool) (ST : List Nat) (M : TM) (n : Nat) : Prop := IN.length = 8 ∧ ST.length = 8 ∧ MIn M n ∧ (∀ q : Nat, q < 8 → (mget M (q : Int)).isSome = IN.getD q false) ∧ ∀ a ∈ M, ∃ q : Nat, q < 8 ∧ a.1 = (q : Int) ∧ a.2.label = [] ∧ a.2.stamp = ((ST.getD q 0 : Nat) : Int)
theorem RInv.start : RInv (List.replicate 8 false) (List.replicate 8 0) [] 0 := ⟨rfl, rfl, MIn.start, fun q hq => by
  have : (List.replicate 8 false).getD q false = false := (by decide : ∀ q, q < 8 → (List.replicate 8 false).getD q false = false) q hq
  rw [this]; rfl, fun _ h => by cases h⟩
theorem RInv.mono {m : Nat} (h : RInv IN ST M n) (hm : n ≤ m) : RInv IN ST M m := ⟨h.1, h.2.1, h.2.2.1.mono hm, h.2.2.2⟩
theorem RInv.enter (h : RInv IN ST M n) (ht : t < 8) (hI : IN.getD t false = false) (hS : ST2.length = 8 ∧ ∀ q, q ≠ t → ST2.getD q 0 = ST.getD q 0) (hs : s = ((ST2.getD t 0 : Nat) : Int)) : enterE M (t : Int) = 0 ∧ RInv (IN.set t true) ST2 (enterM M (t : Int) [] s) (n + 1) := by
  obtain ⟨h1, h2, h3, h4, h5⟩ := h
  have hg : mget M (t : Int) = none := by
    have := h4 t ht; rw [hI] at this
    cases hq : mget M (t : Int) with
    | none => rfl
    | some v => rw [hq] at this; cases this
  have e : enterM M (t : Int) [] s = mput M (t : Int) (newT [] s) := by unfold enterM; rw [hg]; rfl
  refine ⟨by unfold enterE; rw [hg]; rfl, by simp [h1], hS.1, h3.enter (wf_i64 (by omega) (by omega)) (by decide), fun q hq => ?_, fun a ha => ?_⟩
  · rw [e, mget_mput h3.2.1, getD_set (by omega)]
    by_cases hqt : q = t
    · subst hqt; rw [if_pos rfl, if_pos rfl]; rfl
    · rw [if_neg (by omega), if_neg hqt]; exact h4 q hq
  · rw [e] at ha
    rcases (mem_mput (a := a.1) (u := a.2) h3.2.1).1 ha with ⟨e1, e2⟩ | ⟨hne, ha⟩
    · exact ⟨t, ht, e1, by rw [e2]; rfl, by rw [e2]; exact hs⟩
    · obtain ⟨q, hq, q1, q2, q3⟩ := h5 _ ha
      have q1' : a.1 = (q : Int) := q1
      exact ⟨q, hq, q1, q2, by rw [hS.2 q (fun e => hne (by rw [q1', e]))]; exact q3⟩
theorem RInv.get (h : RInv IN ST M n) (ht : t < 8) (hI : IN.getD t false = true) : ∃ T, mget M (t : Int) = some T ∧ T.label = [] ∧ T.stamp = ((ST.getD t 0 : Nat) : Int) := by
  have := h.2.2.2.1 t ht
  rw [hI] at this
  obtain ⟨T, hT⟩ := Option.isSome_iff_exists.1 this
  obtain ⟨q, hq, q1, q2, q3⟩ := h.2.2.2.2 _ (mget_mem hT)
  have q1' : (t : Int) = (q : Int) := q1
  obtain rfl : q = t := by omega
  exact ⟨T, hT, q2, q3⟩
theorem othB_in (h : RInv IN ST M n) {a : Int × TX} {T : TX} (ha : a ∈ M) (ho : othB M (t : Int) (sameQ T) a.1 = true) : ∃ q : Nat, q < 8 ∧ a.1 = (q : Int) ∧ q ≠ t ∧ IN.getD q false = true ∧ (txAt M a.1).stamp = ((ST.getD q 0 : Nat) : Int) := by
  obtain ⟨q, hq, q1, q2, q3⟩ := h.2.2.2.2 a ha
  unfold othB at ho
  simp only [Bool.and_eq_true, decide_eq_true_eq] at ho
  refine ⟨q, hq, q1, fun e => ho.1 (by rw [q1, e]), ?_, by rw [h.2.2.1.at ha]; exact q3⟩
  have := h.2.2.2.1 q hq
  rw [← q1, mget_of_mem h.2.2.1.2.1 (show (a.1, a.2) ∈ M from ha)] at this
  exact this.symm
theorem RInv.ask (h : RInv IN ST M n) (ht : t < 8) (hI : IN.getD t false = true) (hR : R.length ≤ 8) : askE M (t : Int) = 0 ∧ RInv IN ST (askM M (t : Int) R x) (n + 1) ∧ (eldB IN ST t 8 = true → askV M (t : Int) R x ≠ 3) ∧ (aloB IN t 8 = true → askV M (t : Int) R x = 1) := by
  obtain ⟨T, hT, hl, hs⟩ := h.get ht hI
  obtain ⟨h1, h2, h3, h4, h5⟩ := id h
  have e : askM M (t : Int) R x = mput M (t : Int) (askT T R x (ansO M (t : Int) T R x)) := by unfold askM; rw [hT]
  have hask : ∀ o, (askT T R x o).label = T.label ∧ (askT T R x o).stamp = T.stamp := fun o => by unfold askT; split <;> exact ⟨rfl, rfl⟩
  refine ⟨by unfold askE; rw [hT]; rfl, ⟨h1, h2, h3.ask hR, fun q hq => ?_, fun a ha => ?_⟩, fun he => ?_, fun ha => ?_⟩
  · rw [e, mget_mput h3.2.1]
    by_cases hqt : (q : Int) = (t : Int)
    · obtain rfl : q = t := by omega
      rw [if_pos rfl, hI]; rfl
    · rw [if_neg hqt]; exact h4 q hq
  · rw [e] at ha
    rcases (mem_mput (a := a.1) (u := a.2) h3.2.1).1 ha with ⟨e1, e2⟩ | ⟨hne, ha⟩
    · exact ⟨t, ht, e1, by rw [e2, (hask _).1]; exact hl, by rw [e2, (hask _).2]; exact hs⟩
    · exact h5 _ ha
  · rw [askV_of hT]
    unfold ansO
    have : (M.any fun a => othB M (t : Int) (sameQ T) a.1 && dieB M T R x a.1) = false := List.any_eq_false.2 fun a ha => by
      intro hh
      rw [Bool.and_eq_true] at hh
      obtain ⟨q, hq, q1, q2, q3, q4⟩ := othB_in h ha hh.1
      have hd := hh.2
      unfold dieB at hd
      simp only [Bool.and_eq_true, decide_eq_true_eq] at hd
      have hle := hd.2
      rw [q4, hs] at hle
      unfold eldB at he
      have := List.all_eq_true.1 he q (List.mem_range.2 hq)
      rw [q3, decide_eq_true q2, Bool.true_and, Bool.not_true, Bool.false_or, decide_eq_true_eq] at this
      omega
    rw [this]
    simp only [Bool.false_eq_true, if_false]
    split <;> decide
  · rw [askV_of hT]
    refine ans_one fun a hm => .inl ?_
    cases ho : othB M (t : Int) (sameQ T) a.1 with
    | false => rfl
    | true =>
      obtain ⟨q, hq, q1, q2, q3, q4⟩ := othB_in h hm ho
      unfold aloB at ha
      have := List.all_eq_true.1 ha q (List.mem_range.2 hq)
      rw [q3, decide_eq_true q2] at this
      simp at this
theorem RInv.leave (h : RInv IN ST M n) (ht : t < 8) (hI : IN.getD t false = true) : leaveE M (t : Int) = 0 ∧ RInv (IN.set t false) ST (mdel M (t : Int)) (n + 1) := by
  obtain ⟨T, hT, hl, hs⟩ := h.get ht hI
  obtain ⟨h1, h2, h3, h4, h5⟩ := h
  refine ⟨by unfold leaveE; rw [hT]; rfl, by simp [h1], h2, h3.del, fun q hq => ?_, fun a ha => ?_⟩
  · rw [mget_mdel h3.2.1, getD_set (by omega)]
    by_cases hqt : q = t
    · subst hqt; rw [if_pos rfl, if_pos rfl]; rfl
    · rw [if_neg (by omega), if_neg hqt]; exact h4 q hq
  · exact h5 _ (mdel_keys_sub.subset ha)
end
end Go.Proofs.Ytmhdbphpmgjpcaa

/- What is owned, plainly. -/
namespace Go.Proofs.Ytmhdbphpmgjpcaa
open Go.Gx Go.RowKit
theorem flows_iff {l m : Lb} : flowsL l m = true ↔ ∀ x ∈ l, x ∈ m := by simp [flowsL, inL]
end Go.Proofs.Ytmhdbphpmgjpcaa

/- Plain facts on lists that are merged by picks. -/
namespace Go.Gx
abbrev LU := List UInt16
abbrev LbU := Value × LU
def DU : LbU := (.slice none 0 0, [])
/-- a list told by where one is in each -/
def AtIs (X : List LU) (A : List Nat) (S : List LU) : Prop := A.length = X.length ∧ S.length = X.length ∧ ∀ k, S.getD k [] = (X.getD k []).drop (A.getD k 0)
theorem AtIs.start (X : List LU) : AtIs X (List.replicate X.length 0) X := ⟨by simp, rfl, fun k => by
  have : (List.replicate X.length 0).getD k 0 = 0 := by simp only [List.getD_eq_getElem?_getD, List.getElem?_replicate]; split <;> rfl
  rw [this]; rfl⟩
theorem getD_set_ne {α : Type} {l : List α} {i j : Nat} {x d : α} (h : i ≠ j) : (l.set i x).getD j d = l.getD j d := by simp [List.getD_eq_getElem?_getD, List.getElem?_set_ne h]
theorem getD_set_eq {α : Type} {l : List α} {i : Nat} {x d : α} (h : i < l.length) : (l.set i x).getD i d = x := by simp [List.getD_eq_getElem?_getD, h]
/-! sums of lengths -/
/-- one is nowhere behind an end -/
def AtLe (M : List LbU) (A : List Nat) : Prop := ∀ k, A.getD k 0 ≤ (M.getD k DU).2.length
theorem AtLe.start (M : List LbU) (n : Nat) : AtLe M (List.replicate n 0) := fun k => by
  have : (List.replicate n 0).getD k 0 = 0 := by simp only [List.getD_eq_getElem?_getD, List.getElem?_replicate]; split <;> rfl
  rw [this]; exact Nat.zero_le _
theorem AtLe.step {M : List LbU} {A : List Nat} (h : AtLe M A) {k : Nat} (hn : A.getD k 0 < (M.getD k DU).2.length) : AtLe M (A.set k (A.getD k 0 + 1)) := fun j => by
  by_cases hj : k = j
  · subst hj
    by_cases hk : k < A.length
    · rw [getD_set_eq hk]; omega
    · have := h k
      rw [List.set_eq_of_length_le (by omega)]; exact this
  · rw [getD_set_ne hj]; exact h j
/-! lists of numbers -/
def nv (n : Nat) : Value := .int .i64 (n : Int)
theorem flat_one {α : Type} (l : List α) (f : α → Value) : l.flatMap (fun x => [f x]) = l.map f := by induction l with | nil => rfl | cons a l ih => simp [ih]
end Go.Gx

/- Operations on locks by what is told of each transaction; what is at a label does not hang on what is not below it. -/
namespace Go.Gx
theorem RdC.cla {w : World} {L B sz n : Nat} {v : Value} {cs : List Value} (h : RdC w L B sz v n cs) : v.cells = #[v] := by obtain ⟨_, a, c, rfl, _⟩ := h; rfl
end Go.Gx
namespace Go.Proofs.Ytmhdbphpmgjpcaa
open Go.Gx Go.RowKit
theorem rall_du {w : World} {B : Nat} (n : Nat) : ∀ x9 ∈ List.replicate n DU, RdC w 0 B 1 x9.1 x9.2.length (x9.2.map u16v) := fun x9 h => by rw [(List.mem_replicate.1 h).2]; exact RdC.nil _ _ _ _
theorem rall_set {w : World} {B t : Nat} {NOW : List LbU} {o : LbU} (h : ∀ x9 ∈ NOW, RdC w 0 B 1 x9.1 x9.2.length (x9.2.map u16v)) (ho : RdC w 0 B 1 o.1 o.2.length (o.2.map u16v)) : ∀ x9 ∈ NOW.set t o, RdC w 0 B 1 x9.1 x9.2.length (x9.2.map u16v) := fun x9 hx => by
  rcases List.mem_or_eq_of_mem_set hx with hx | rfl
  · exact h x9 hx
  · exact ho
def doV (M : TM) (kd : Nat) (n : Int) (R : List (List UInt8)) (x : List UInt8) : Int :=
  if kd < 2 then enterE M n else if kd = 2 then moveE M n else if kd = 8 then leaveE M n else if kd = 9 then leaveE M n else if kd = 10 then (if (txAt M n).doomed = true then 1 else 0) else 100 * askE M n + askV M n R x
def doM (M : TM) (kd : Nat) (n : Int) (l : List UInt16) (s : Int) (R : List (List UInt8)) (x : List UInt8) : TM :=
  if kd < 2 then enterM M n l s else if kd = 2 then moveM M n l s else if kd = 8 then comM M n else if kd = 9 then mdel M n else if kd = 10 then M else askM M n R x
section
variable {M A B : TM} {i n9 t kd : Nat} {n s x9 : Int} {l aL : List UInt16} {T u : TX} {R : List (List UInt8)} {x : List UInt8}
theorem doV_0 (h : kd < 2) : doV M kd n R x = enterE M n := if_pos h
theorem doM_0 (h : kd < 2) : doM M kd n l s R x = enterM M n l s := if_pos h
theorem doV_2 (h : kd = 2) : doV M kd n R x = moveE M n := by subst h; rfl
theorem doM_2 (h : kd = 2) : doM M kd n l s R x = moveM M n l s := by subst h; rfl
theorem doV_8 (h : kd = 8) : doV M kd n R x = leaveE M n := by subst h; rfl
theorem doM_8 (h : kd = 8) : doM M kd n l s R x = comM M n := by subst h; rfl
theorem doV_9 (h : kd = 9) : doV M kd n R x = leaveE M n := by subst h; rfl
theorem doM_9 (h : kd = 9) : doM M kd n l s R x = mdel M n := by subst h; rfl
theorem doV_10 (h : kd = 10) : doV M kd n R x = if (txAt M n).doomed = true then 1 else 0 := by subst h; rfl
theorem doM_10 (h : kd = 10) : doM M kd n l s R x = M := by subst h; rfl
theorem doV_a (h : ¬ kd < 2 ∧ kd ≠ 2 ∧ kd ≠ 8 ∧ kd ≠ 9 ∧ kd ≠ 10) : doV M kd n R x = 100 * askE M n + askV M n R x := by unfold doV; rw [if_neg h.1, if_neg h.2.1, if_neg h.2.2.1, if_neg h.2.2.2.1, if_neg h.2.2.2.2]
theorem doM_a (h : ¬ kd < 2 ∧ kd ≠ 2 ∧ kd ≠ 8 ∧ kd ≠ 9 ∧ kd ≠ 10) : doM M kd n l s R x = askM M n R x := by unfold doM; rw [if_neg h.1, if_neg h.2.1, if_neg h.2.2.1, if_neg h.2.2.2.1, if_neg h.2.2.2.2]
theorem kd_cases (kd : Nat) : kd < 2 ∨ kd = 2 ∨ kd = 8 ∨ kd = 9 ∨ kd = 10 ∨ (¬ kd < 2 ∧ kd ≠ 2 ∧ kd ≠ 8 ∧ kd ≠ 9 ∧ kd ≠ 10) := by omega
theorem askE_le : askE M n = 0 ∨ askE M n = 18 := by unfold askE; split <;> simp
theorem askV_le : 0 ≤ askV M n R x ∧ askV M n R x ≤ 3 := by
  unfold askV
  cases mget M n with
  | none => simp
  | some t => simp only []; unfold ansO; split <;> (try split) <;> simp
theorem MIn.do (h : MIn M i) (hn : (Lit.int .i64 n).wf = true) (hl : l.length ≤ 8) (hR : R.length ≤ 8) : MIn (doM M kd n l s R x) (i + 1) := by
  rcases kd_cases kd with q | q | q | q | q | q
  · rw [doM_0 q]; exact h.enter hn hl
  · rw [doM_2 q]; exact h.move hl
  · rw [doM_8 q]; exact h.com
  · rw [doM_9 q]; exact h.del
  · rw [doM_10 q]; exact h.mono (Nat.le_succ _)
  · rw [doM_a q]; exact h.ask hR
/-! by what each key has -/
theorem txAt_of (h : mget M n = some T) : txAt M n = T := by unfold txAt; rw [h]; rfl
theorem any_get (h : (M.map Prod.fst).Nodup) {p : Int → TX → Bool} : (M.any fun a => p a.1 (txAt M a.1)) = true ↔ ∃ y u, mget M y = some u ∧ p y u = true := by
  rw [List.any_eq_true]
  constructor
  · rintro ⟨a, ha, hp⟩
    have hg := mget_of_mem h (show (a.1, a.2) ∈ M from ha)
    exact ⟨a.1, a.2, hg, by rw [txAt_of hg] at hp; exact hp⟩
  · rintro ⟨y, u, hg, hp⟩
    exact ⟨_, mget_mem hg, by show p y (txAt M y) = true; rw [txAt_of hg]; exact hp⟩
/-- Who stands in the way. -/
def wayB (n : Int) (T : TX) (R : List (List UInt8)) (x : List UInt8) (y : Int) (u : TX) : Bool := (decide (y ≠ n) && decide (u.label = T.label)) && standB u R x T.label
def wayD (n : Int) (T : TX) (R : List (List UInt8)) (x : List UInt8) (y : Int) (u : TX) : Bool := (decide (y ≠ n) && decide (u.label = T.label)) && (standB u R x T.label && decide (u.stamp ≤ T.stamp))
theorem ans_eq : ansO M n T R x = if (M.any fun a => wayD n T R x a.1 (txAt M a.1)) = true then 3 else if (M.any fun a => wayB n T R x a.1 (txAt M a.1)) = true then 2 else 1 := rfl
/-- Alike for all that could stand in the way: alike answered. -/
theorem ans_congr (hA : (A.map Prod.fst).Nodup) (hB : (B.map Prod.fst).Nodup) (h : ∀ y u, u.label = T.label → (mget A y = some u ↔ mget B y = some u)) : ansO A n T R x = ansO B n T R x := by
  have e1 : (A.any fun a => wayD n T R x a.1 (txAt A a.1)) = (B.any fun a => wayD n T R x a.1 (txAt B a.1)) := by
    rw [Bool.eq_iff_iff, any_get (p := wayD n T R x) hA, any_get (p := wayD n T R x) hB]
    have hl : ∀ {y u}, wayD n T R x y u = true → u.label = T.label := fun {y u} hq => by unfold wayD at hq; simp only [Bool.and_eq_true, decide_eq_true_eq] at hq; exact hq.1.2
    exact ⟨fun ⟨y, u, hg, hp⟩ => ⟨y, u, (h y u (hl hp)).1 hg, hp⟩, fun ⟨y, u, hg, hp⟩ => ⟨y, u, (h y u (hl hp)).2 hg, hp⟩⟩
  have e2 : (A.any fun a => wayB n T R x a.1 (txAt A a.1)) = (B.any fun a => wayB n T R x a.1 (txAt B a.1)) := by
    rw [Bool.eq_iff_iff, any_get (p := wayB n T R x) hA, any_get (p := wayB n T R x) hB]
    have hl : ∀ {y u}, wayB n T R x y u = true → u.label = T.label := fun {y u} hq => by unfold wayB at hq; simp only [Bool.and_eq_true, decide_eq_true_eq] at hq; exact hq.1.2
    exact ⟨fun ⟨y, u, hg, hp⟩ => ⟨y, u, (h y u (hl hp)).1 hg, hp⟩, fun ⟨y, u, hg, hp⟩ => ⟨y, u, (h y u (hl hp)).2 hg, hp⟩⟩
  rw [ans_eq, ans_eq, e1, e2]
theorem enter_get (h : (M.map Prod.fst).Nodup) : mget (enterM M n l s) x9 = if x9 = n ∧ mget M n = none then some (newT l s) else mget M x9 := by
  unfold enterM
  cases hg : mget M n with
  | none =>
    simp only [Option.isSome_none, Bool.false_eq_true, if_false, and_true]
    exact mget_mput h
  | some v => simp
theorem move_get (h : (M.map Prod.fst).Nodup) (hg : mget M n = some T) (hw : ¬ 0 < T.writes.length) : mget (moveM M n l s) x9 = if x9 = n then some (moveT T l s) else mget M x9 := by
  unfold moveM; rw [hg]; simp only []; rw [if_neg hw]; exact mget_mput h
theorem ask_get (h : (M.map Prod.fst).Nodup) (hg : mget M n = some T) : mget (askM M n R x) x9 = if x9 = n then some (askT T R x (ansO M n T R x)) else mget M x9 := by
  unfold askM; rw [hg]; exact mget_mput h
def dm1 (T u : TX) : TX := if (upQ T u.label && T.writes.any fun s => covB u.reads s T.label) = true then doomT u else u
theorem dm1_label : (dm1 T u).label = u.label := by unfold dm1; split <;> rfl
theorem com_get (h : (M.map Prod.fst).Nodup) (hg : mget M n = some T) : mget (comM M n) x9 = if x9 = n then none else (mget M x9).map (dm1 T) := by
  unfold comM; rw [hg]; simp only []
  rw [mget_mdel (by rw [doomL_keys]; exact h)]
  by_cases hx : x9 = n
  · rw [if_pos hx, if_pos hx]
  · rw [if_neg hx, if_neg hx, mget_doom]
    cases hq : mget M x9 with
    | none => rfl
    | some u =>
      simp only [Option.map_some, Option.some.injEq]
      unfold dm1 hitB
      rw [txAt_of hq]
      have e : (othersL M n (upQ T)).contains x9 = upQ T u.label := by
        rw [Bool.eq_iff_iff, List.contains_iff_mem]
        unfold othersL
        rw [List.mem_filter, txAt_of hq, sortK_mem]
        exact ⟨fun q => by have := q.2; simp only [Bool.and_eq_true] at this; exact this.2, fun q => ⟨List.mem_map.2 ⟨_, mget_mem hq, rfl⟩, by simp only [Bool.and_eq_true, decide_eq_true_eq]; exact ⟨hx, q⟩⟩⟩
      rw [e]
theorem askT_label {o : Int} : (askT T R x o).label = T.label := by unfold askT; split <;> rfl
/-! those below a label -/
def Up (aL : List UInt16) (A B : TM) : Prop := ∀ y u, mget B y = some u ↔ mget A y = some u ∧ flowsL u.label aL = true
theorem flows_trans {a b c : List UInt16} (h1 : flowsL a b = true) (h2 : flowsL b c = true) : flowsL a c = true := flows_iff.2 fun x hx => flows_iff.1 h2 x (flows_iff.1 h1 x hx)
theorem Up.miss (h : Up aL A B) (hg : mget A n = none) : mget B n = none := by
  cases hq : mget B n with
  | none => rfl
  | some u => have := ((h n u).1 hq).1; rw [hg] at this; cases this
theorem Up.out (h : Up aL A B) (hg : mget A n = some T) (hf : ¬ flowsL T.label aL = true) : mget B n = none := by
  cases hq : mget B n with
  | none => rfl
  | some u => obtain ⟨h1, h2⟩ := (h n u).1 hq; rw [hg] at h1; injection h1 with h1; subst h1; exact absurd h2 hf
theorem Up.in (h : Up aL A B) (hg : mget A n = some T) (hf : flowsL T.label aL = true) : mget B n = some T := (h n T).2 ⟨hg, hf⟩
/-- One key turns in both. -/
theorem Up.set {A' B' : TM} {a' b' : Option TX} (h : Up aL A B) (hA : ∀ y, mget A' y = if y = n then a' else mget A y) (hB : ∀ y, mget B' y = if y = n then b' else mget B y) (hab : ∀ u, b' = some u ↔ a' = some u ∧ flowsL u.label aL = true) : Up aL A' B' := fun y u => by
  rw [hA, hB]
  by_cases hy : y = n
  · rw [if_pos hy, if_pos hy]; exact hab u
  · rw [if_neg hy, if_neg hy]; exact h y u
/-! the run -/
def UInv (aL : List UInt16) (A B : TM) (IN : List Bool) (NOW : List LbU) (n : Nat) : Prop :=
  IN.length = 16 ∧ NOW.length = 16 ∧ MIn A n ∧ MIn B n ∧ (∀ q : Nat, q < 16 → (mget A (q : Int)).isSome = IN.getD q false) ∧ (∀ (q : Nat) u, q < 16 → mget A (q : Int) = some u → u.label = (NOW.getD q DU).2) ∧ Up aL A B ∧ ∀ z ∈ NOW, z.2.length ≤ 8
variable {IN : List Bool} {NOW : List LbU} {o : LbU}
theorem UInv.start : UInv aL [] [] (List.replicate 16 false) (List.replicate 16 DU) 0 :=
  ⟨rfl, rfl, MIn.start, MIn.start, fun q hq => by
    have : (List.replicate 16 false).getD q false = false := (by decide : ∀ q, q < 16 → (List.replicate 16 false).getD q false = false) q hq
    rw [this]; rfl, fun _ _ _ h => (by cases h), fun _ _ => ⟨fun h => (by cases h), fun h => (by cases h.1)⟩, fun z hz => by rw [(List.mem_replicate.1 hz).2]; exact Nat.zero_le _⟩
theorem UInv.hit (h : UInv aL A B IN NOW n9) (ht : t < 16) (hI : IN.getD t false = true) : ∃ u, mget A (t : Int) = some u ∧ u.label = (NOW.getD t DU).2 := by
  have := h.2.2.2.2.1 t ht
  rw [hI] at this
  obtain ⟨u, hu⟩ := Option.isSome_iff_exists.1 this
  exact ⟨u, hu, h.2.2.2.2.2.1 t u ht hu⟩
theorem UInv.out (h : UInv aL A B IN NOW n9) (ht : t < 16) (hI : IN.getD t false = false) : mget A (t : Int) = none := by
  have := h.2.2.2.2.1 t ht
  rw [hI] at this
  cases hq : mget A (t : Int) with
  | none => rfl
  | some u => rw [hq] at this; cases this
theorem wft (ht : t < 16) : (Lit.int .i64 (t : Int)).wf = true := wf_i64 (by omega) (by omega)
/-- What is done when nothing but A's t and B's t turn, with t's label as it was or gone. -/
theorem UInv.turn {A' B' : TM} {a' b' : Option TX} {IN' : List Bool} (h : UInv aL A B IN NOW n9) (ht : t < 16) (hA : ∀ y, mget A' y = if y = (t : Int) then a' else mget A y) (hB : ∀ y, mget B' y = if y = (t : Int) then b' else mget B y) (mA : MIn A' (n9 + 1)) (mB : MIn B' (n9 + 1))
    (hI : IN' = IN.set t a'.isSome) (hl : ∀ u, a' = some u → u.label = (NOW.getD t DU).2) (hab : ∀ u, b' = some u ↔ a' = some u ∧ flowsL u.label aL = true) : UInv aL A' B' IN' NOW (n9 + 1) := by
  obtain ⟨h1, h2, h3, h4, h5, h6, h7, h8⟩ := h
  refine ⟨by rw [hI, List.length_set]; exact h1, h2, mA, mB, fun q hq => ?_, fun q u hq hu => ?_, h7.set hA hB hab, h8⟩
  · rw [hA, hI, getD_set (by omega)]
    by_cases hqt : q = t
    · rw [if_pos (by rw [hqt]), if_pos hqt]
    · rw [if_neg (by omega), if_neg hqt]; exact h5 q hq
  · rw [hA] at hu
    by_cases hqt : q = t
    · rw [if_pos (by rw [hqt])] at hu; rw [hqt]; exact hl u hu
    · rw [if_neg (by omega)] at hu; exact h6 q u hq hu
theorem set_self {α : Type} {l : List α} {i : Nat} {d : α} (h : i < l.length) : l.set i (l.getD i d) = l := by
  apply List.ext_getElem?
  intro q
  rw [List.getElem?_set]
  by_cases hq : i = q
  · subst hq; rw [if_pos rfl, if_pos h]; simp [List.getD_eq_getElem?_getD, h]
  · rw [if_neg hq]
theorem UInv.same (h : UInv aL A B IN NOW n9) : UInv aL A B IN NOW (n9 + 1) := ⟨h.1, h.2.1, h.2.2.1.mono (Nat.le_succ _), h.2.2.2.1.mono (Nat.le_succ _), h.2.2.2.2⟩
theorem UInv.mono {m : Nat} (h : UInv aL A B IN NOW n9) (hm : n9 ≤ m) : UInv aL A B IN NOW m := ⟨h.1, h.2.1, h.2.2.1.mono hm, h.2.2.2.1.mono hm, h.2.2.2.2⟩
def inK (kd t : Nat) (IN : List Bool) : List Bool := if kd = 8 ∨ kd = 9 then IN.set t false else IN
theorem mdel_get (h : (M.map Prod.fst).Nodup) : mget (mdel M n) x9 = if x9 = n then none else mget M x9 := mget_mdel h
/-- Doing what turns no label, of who is seen. -/
theorem UInv.see (h : UInv aL A B IN NOW n9) (ht : t < 16) (hI : IN.getD t false = true) (hf : flowsL (NOW.getD t DU).2 aL = true) (hR : R.length ≤ 8) (hl : l.length ≤ 8) (h2 : kd ≠ 2) :
    doV B kd (t : Int) R x = doV A kd (t : Int) R x ∧ UInv aL (doM A kd (t : Int) l s R x) (doM B kd (t : Int) l s R x) (inK kd t IN) NOW (n9 + 1) := by
  obtain ⟨u, hu, hlu⟩ := h.hit ht hI
  have hff : flowsL u.label aL = true := by rw [hlu]; exact hf
  have hv : mget B (t : Int) = some u := h.2.2.2.2.2.2.1.in hu hff
  have nA := h.2.2.1.2.1; have nB := h.2.2.2.1.2.1
  have sI : IN.set t true = IN := by have := set_self (d := false) (l := IN) (i := t) (by have := h.1; omega); rw [hI] at this; exact this
  rcases kd_cases kd with q | q | q | q | q | q
  · have e : inK kd t IN = IN := if_neg (by omega)
    rw [doV_0 q, doV_0 q, doM_0 q, doM_0 q, e]
    have e1 : enterM A (t : Int) l s = A := by unfold enterM; rw [hu]; rfl
    have e2 : enterM B (t : Int) l s = B := by unfold enterM; rw [hv]; rfl
    rw [e1, e2]
    exact ⟨by unfold enterE; rw [hu, hv], h.same⟩
  · exact absurd q h2
  · have e : inK kd t IN = IN.set t false := if_pos (.inl q)
    rw [doV_8 q, doV_8 q, doM_8 q, doM_8 q, e]
    refine ⟨by unfold leaveE; rw [hu, hv], ?_⟩
    obtain ⟨h1, h2, h3, h4, h5, h6, h7, h8⟩ := h
    refine ⟨by rw [List.length_set]; exact h1, h2, h3.com, h4.com, fun z hz => ?_, fun z w hz hw => ?_, fun y w => ?_, h8⟩
    · rw [com_get nA hu, getD_set (by omega)]
      by_cases hzt : z = t
      · rw [if_pos (by rw [hzt]), if_pos hzt]; rfl
      · rw [if_neg (by omega), if_neg hzt, ← h5 z hz]; cases mget A (z : Int) <;> rfl
    · rw [com_get nA hu] at hw
      by_cases hzt : z = t
      · rw [if_pos (by rw [hzt])] at hw; cases hw
      · rw [if_neg (by omega)] at hw
        obtain ⟨w0, hw0, rfl⟩ := Option.map_eq_some_iff.1 hw
        rw [dm1_label]; exact h6 z w0 hz hw0
    · rw [com_get nA hu, com_get nB hv]
      by_cases hy : y = (t : Int)
      · rw [if_pos hy, if_pos hy]; exact ⟨fun q => (by cases q), fun q => (by cases q.1)⟩
      · rw [if_neg hy, if_neg hy]
        constructor
        · intro hw
          obtain ⟨w0, hw0, rfl⟩ := Option.map_eq_some_iff.1 hw
          obtain ⟨q1, q2⟩ := (h7 y w0).1 hw0
          exact ⟨by rw [q1]; rfl, by rw [dm1_label]; exact q2⟩
        · rintro ⟨hw, hfw⟩
          obtain ⟨w0, hw0, rfl⟩ := Option.map_eq_some_iff.1 hw
          rw [dm1_label] at hfw
          rw [(h7 y w0).2 ⟨hw0, hfw⟩]; rfl
  · have e : inK kd t IN = IN.set t false := if_pos (.inr q)
    rw [doV_9 q, doV_9 q, doM_9 q, doM_9 q, e]
    exact ⟨by unfold leaveE; rw [hu, hv], h.turn (a' := none) (b' := none) ht (fun y => mdel_get nA) (fun y => mdel_get nB) h.2.2.1.del h.2.2.2.1.del rfl (fun _ q => by cases q) (fun _ => ⟨fun q => (by cases q), fun q => (by cases q.1)⟩)⟩
  · have e : inK kd t IN = IN := if_neg (by omega)
    rw [doV_10 q, doV_10 q, doM_10 q, doM_10 q, e, txAt_of hu, txAt_of hv]
    exact ⟨rfl, h.same⟩
  · have e : inK kd t IN = IN := if_neg (by omega)
    rw [doV_a q, doV_a q, doM_a q, doM_a q, e, askV_of hu, askV_of hv]
    have ea : ansO A (t : Int) u R x = ansO B (t : Int) u R x := ans_congr nA nB fun y w hw => ⟨fun q => (h.2.2.2.2.2.2.1 y w).2 ⟨q, by rw [hw]; exact hff⟩, fun q => ((h.2.2.2.2.2.2.1 y w).1 q).1⟩
    refine ⟨by rw [ea]; unfold askE; rw [hu, hv], h.turn (a' := some (askT u R x (ansO A (t : Int) u R x))) (b' := some (askT u R x (ansO A (t : Int) u R x))) ht (fun y => ask_get nA hu) (fun y => by rw [ea]; exact ask_get nB hv) (h.2.2.1.ask hR) (h.2.2.2.1.ask hR) (by rw [Option.isSome_some]; exact sI.symm) (fun w hw => ?_) (fun w => ⟨fun q => ⟨q, ?_⟩, fun q => q.1⟩)⟩
    · injection hw with hw; rw [← hw, askT_label]; exact hlu
    · injection q with q; rw [← q, askT_label]; exact hff
/-- The same of who is not seen. -/
theorem UInv.hide (h : UInv aL A B IN NOW n9) (ht : t < 16) (hs : ¬ (IN.getD t false = true ∧ flowsL (NOW.getD t DU).2 aL = true)) (hR : R.length ≤ 8) (hl : l.length ≤ 8) (h2 : kd ≠ 2) (h0 : kd < 2 → IN.getD t false = true) :
    UInv aL (doM A kd (t : Int) l s R x) B (inK kd t IN) NOW (n9 + 1) := by
  have nA := h.2.2.1.2.1
  have hBn : mget B (t : Int) = none := by
    cases hI : IN.getD t false with
    | false => exact h.2.2.2.2.2.2.1.miss (h.out ht hI)
    | true =>
      obtain ⟨u, hu, hlu⟩ := h.hit ht hI
      exact h.2.2.2.2.2.2.1.out hu (by rw [hlu]; exact fun q => hs ⟨hI, q⟩)
  have hB : ∀ y, mget B y = if y = (t : Int) then none else mget B y := fun y => by
    by_cases hy : y = (t : Int)
    · rw [if_pos hy, hy, hBn]
    · rw [if_neg hy]
  have hno : ∀ w : TX, (none : Option TX) = some w ↔ (none : Option TX) = some w ∧ flowsL w.label aL = true := fun w => ⟨fun q => (by cases q), fun q => (by cases q.1)⟩
  cases hI : IN.getD t false with
  | false =>
    have hA := h.out ht hI
    have sI : IN.set t false = IN := by have := set_self (d := false) (l := IN) (i := t) (by have := h.1; omega); rw [hI] at this; exact this
    have e : inK kd t IN = IN := by unfold inK; rw [sI]; split <;> rfl
    have eM : doM A kd (t : Int) l s R x = A := by
      rcases kd_cases kd with q | q | q | q | q | q
      · exact absurd (h0 q) (by rw [hI]; decide)
      · exact absurd q h2
      · rw [doM_8 q]; unfold comM; rw [hA]
      · rw [doM_9 q]
        unfold mdel
        cases hq : mlook A (t : Int) with
        | none => rfl
        | some r => unfold mget at hA; rw [hq] at hA; cases hA
      · rw [doM_10 q]
      · rw [doM_a q]; unfold askM; rw [hA]
    rw [e, eM]; exact h.same
  | true =>
    obtain ⟨u, hu, hlu⟩ := h.hit ht hI
    have hff : ¬ flowsL u.label aL = true := by rw [hlu]; exact fun q => hs ⟨hI, q⟩
    have sI : IN.set t true = IN := by have := set_self (d := false) (l := IN) (i := t) (by have := h.1; omega); rw [hI] at this; exact this
    rcases kd_cases kd with q | q | q | q | q | q
    · have e : inK kd t IN = IN := if_neg (by omega)
      have e1 : enterM A (t : Int) l s = A := by unfold enterM; rw [hu]; rfl
      rw [doM_0 q, e, e1]; exact h.same
    · exact absurd q h2
    · have e : inK kd t IN = IN.set t false := if_pos (.inl q)
      rw [doM_8 q, e]
      obtain ⟨h1, h2, h3, h4, h5, h6, h7, h8⟩ := h
      refine ⟨by rw [List.length_set]; exact h1, h2, h3.com, h4.mono (Nat.le_succ _), fun z hz => ?_, fun z w hz hw => ?_, fun y w => ?_, h8⟩
      · rw [com_get nA hu, getD_set (by omega)]
        by_cases hzt : z = t
        · rw [if_pos (by rw [hzt]), if_pos hzt]; rfl
        · rw [if_neg (by omega), if_neg hzt, ← h5 z hz]; cases mget A (z : Int) <;> rfl
      · rw [com_get nA hu] at hw
        by_cases hzt : z = t
        · rw [if_pos (by rw [hzt])] at hw; cases hw
        · rw [if_neg (by omega)] at hw
          obtain ⟨w0, hw0, rfl⟩ := Option.map_eq_some_iff.1 hw
          rw [dm1_label]; exact h6 z w0 hz hw0
      · rw [com_get nA hu]
        by_cases hy : y = (t : Int)
        · rw [if_pos hy, hy, hBn]; exact ⟨fun q => (by cases q), fun q => (by cases q.1)⟩
        · rw [if_neg hy]
          have key : ∀ w0 : TX, flowsL w0.label aL = true → dm1 u w0 = w0 := fun w0 hw0 => by
            unfold dm1
            refine if_neg fun hh => ?_
            simp only [Bool.and_eq_true] at hh
            have := hh.1
            unfold upQ at this
            simp only [Bool.and_eq_true] at this
            exact hff (flows_trans this.2 hw0)
          constructor
          · intro hw
            obtain ⟨q1, q2⟩ := (h7 y w).1 hw
            exact ⟨by rw [q1, Option.map_some, key w q2], q2⟩
          · rintro ⟨hw, hfw⟩
            obtain ⟨w0, hw0, rfl⟩ := Option.map_eq_some_iff.1 hw
            rw [dm1_label] at hfw
            rw [key w0 hfw]; exact (h7 y w0).2 ⟨hw0, hfw⟩
    · have e : inK kd t IN = IN.set t false := if_pos (.inr q)
      rw [doM_9 q, e]
      exact h.turn (a' := none) (b' := none) ht (fun y => mdel_get nA) hB h.2.2.1.del (h.2.2.2.1.mono (Nat.le_succ _)) rfl (fun _ q => by cases q) hno
    · have e : inK kd t IN = IN := if_neg (by omega)
      rw [doM_10 q, e]; exact h.same
    · have e : inK kd t IN = IN := if_neg (by omega)
      rw [doM_a q, e]
      refine h.turn (a' := some (askT u R x (ansO A (t : Int) u R x))) (b' := none) ht (fun y => ask_get nA hu) hB (h.2.2.1.ask hR) (h.2.2.2.1.mono (Nat.le_succ _)) (by rw [Option.isSome_some]; exact sI.symm) (fun w hw => ?_) (fun w => ⟨fun q => (by cases q), fun q => absurd q.2 ?_⟩)
      · injection hw with hw; rw [← hw, askT_label]; exact hlu
      · have := q.1; injection this with this; rw [← this, askT_label]; exact hff
/-- The label of one that was not there is told ahead of its entering. -/
theorem UInv.pre (h : UInv aL A B IN NOW n9) (ht : t < 16) (hI : IN.getD t false = false) (ho : o.2.length ≤ 8) : UInv aL A B IN (NOW.set t o) n9 := by
  obtain ⟨h1, h2, h3, h4, h5, h6, h7, h8⟩ := id h
  refine ⟨h1, by rw [List.length_set]; exact h2, h3, h4, h5, fun q u hq hu => ?_, h7, fun z hz => ?_⟩
  · have hqt : q ≠ t := fun e => by rw [e, h.out ht hI] at hu; cases hu
    rw [getD_set (by omega), if_neg hqt]; exact h6 q u hq hu
  · rcases List.mem_or_eq_of_mem_set hz with hz | rfl
    · exact h8 z hz
    · exact ho
/-- Entering. -/
theorem UInv.new (h : UInv aL A B IN NOW n9) (ht : t < 16) (hI : IN.getD t false = false) (hlo : l = (NOW.getD t DU).2) (hk : kd < 2) (hl : l.length ≤ 8) :
    (flowsL l aL = true → doV B kd (t : Int) R x = doV A kd (t : Int) R x ∧ UInv aL (doM A kd (t : Int) l s R x) (doM B kd (t : Int) l s R x) (IN.set t true) NOW (n9 + 1)) ∧ (¬ flowsL l aL = true → UInv aL (doM A kd (t : Int) l s R x) B (IN.set t true) NOW (n9 + 1)) := by
  have hA := h.out ht hI
  have hB := h.2.2.2.2.2.2.1.miss hA
  have nA := h.2.2.1.2.1; have nB := h.2.2.2.1.2.1
  have gA : ∀ y, mget (enterM A (t : Int) l s) y = if y = (t : Int) then some (newT l s) else mget A y := fun y => by
    rw [enter_get nA]
    by_cases hy : y = (t : Int)
    · rw [if_pos ⟨hy, hA⟩, if_pos hy]
    · rw [if_neg fun q => hy q.1, if_neg hy]
  have gB : ∀ y, mget (enterM B (t : Int) l s) y = if y = (t : Int) then some (newT l s) else mget B y := fun y => by
    rw [enter_get nB]
    by_cases hy : y = (t : Int)
    · rw [if_pos ⟨hy, hB⟩, if_pos hy]
    · rw [if_neg fun q => hy q.1, if_neg hy]
  rw [doM_0 hk, doM_0 hk, doV_0 hk, doV_0 hk]
  refine ⟨fun hf => ⟨by unfold enterE; rw [hA, hB], h.turn (a' := some (newT l s)) (b' := some (newT l s)) ht gA gB (h.2.2.1.enter (wft ht) hl) (h.2.2.2.1.enter (wft ht) hl) rfl (fun u hu => ?_) (fun u => ⟨fun q => ⟨q, ?_⟩, fun q => q.1⟩)⟩, fun hf => h.turn (a' := some (newT l s)) (b' := none) ht gA (fun y => ?_) (h.2.2.1.enter (wft ht) hl) (h.2.2.2.1.mono (Nat.le_succ _)) rfl (fun u hu => ?_) (fun u => ⟨fun q => (by cases q), fun q => absurd q.2 ?_⟩)⟩
  · injection hu with hu; rw [← hu]; exact hlo
  · injection q with q; rw [← q]; exact hf
  · by_cases hy : y = (t : Int)
    · rw [if_pos hy, hy, hB]
    · rw [if_neg hy]
  · injection hu with hu; rw [← hu]; exact hlo
  · have := q.1; injection this with this; rw [← this]; exact hf
/-- Moving. -/
theorem UInv.mv (h : UInv aL A B IN NOW n9) (ht : t < 16) (ho : o.2.length ≤ 8) :
    (IN.getD t false = false → moveM A (t : Int) o.2 s = A) ∧
    (IN.getD t false = true → flowsL (NOW.getD t DU).2 o.2 = true →
      (moveE A (t : Int) ≠ 0 → moveM A (t : Int) o.2 s = A) ∧
      (¬ flowsL (NOW.getD t DU).2 aL = true → moveE A (t : Int) = 0 → UInv aL (moveM A (t : Int) o.2 s) B IN (NOW.set t o) (n9 + 1) ∧ ¬ flowsL o.2 aL = true) ∧
      (flowsL (NOW.getD t DU).2 aL = true → moveE B (t : Int) = moveE A (t : Int) ∧ (moveE A (t : Int) ≠ 0 → moveM B (t : Int) o.2 s = B) ∧
        (moveE A (t : Int) = 0 → (flowsL o.2 aL = true → UInv aL (moveM A (t : Int) o.2 s) (moveM B (t : Int) o.2 s) IN (NOW.set t o) (n9 + 1)) ∧ (¬ flowsL o.2 aL = true → UInv aL (moveM A (t : Int) o.2 s) (mdel (moveM B (t : Int) o.2 s) (t : Int)) IN (NOW.set t o) (n9 + 2))))) := by
  have nA := h.2.2.1.2.1; have nB := h.2.2.2.1.2.1
  refine ⟨fun hI => by unfold moveM; rw [h.out ht hI], fun hI hfl => ?_⟩
  obtain ⟨u, hu, hlu⟩ := h.hit ht hI
  have hE : moveE A (t : Int) = if 0 < u.writes.length then 16 else 0 := by unfold moveE; rw [hu]
  have e1 : moveE A (t : Int) ≠ 0 → moveM A (t : Int) o.2 s = A := fun q => by
    have hw : 0 < u.writes.length := Decidable.byContradiction fun hn => q (by rw [hE, if_neg hn])
    unfold moveM; rw [hu]; simp only []; rw [if_pos hw]
  have hw0 : moveE A (t : Int) = 0 → ¬ 0 < u.writes.length := fun q hw => by rw [hE, if_pos hw] at q; cases q
  -- the walk of the invariant when t's label turns in both
  have tn : ∀ {A' B' : TM} {b' : Option TX} {m : Nat}, (∀ y, mget A' y = if y = (t : Int) then some (moveT u o.2 s) else mget A y) → (∀ y, mget B' y = if y = (t : Int) then b' else mget B y) → MIn A' m → MIn B' m → (∀ w, b' = some w ↔ some (moveT u o.2 s) = some w ∧ flowsL w.label aL = true) → UInv aL A' B' IN (NOW.set t o) m := fun {A' B' b' m} gA gB mA mB hab => by
    obtain ⟨h1, h2, h3, h4, h5, h6, h7, h8⟩ := id h
    refine ⟨h1, by rw [List.length_set]; exact h2, mA, mB, fun q hq => ?_, fun q w hq hw => ?_, h7.set gA gB hab, fun z hz => ?_⟩
    · rw [gA]
      by_cases hqt : q = t
      · rw [if_pos (by rw [hqt]), hqt, hI]; rfl
      · rw [if_neg (by omega)]; exact h5 q hq
    · rw [gA] at hw
      rw [getD_set (by omega)]
      by_cases hqt : q = t
      · rw [if_pos (by rw [hqt])] at hw; rw [if_pos hqt]; injection hw with hw; rw [← hw]; rfl
      · rw [if_neg (by omega)] at hw; rw [if_neg hqt]; exact h6 q w hq hw
    · rcases List.mem_or_eq_of_mem_set hz with hz | rfl
      · exact h8 z hz
      · exact ho
  refine ⟨e1, fun hs q => ?_, fun hf => ?_⟩
  · have hnf : ¬ flowsL o.2 aL = true := fun q2 => hs (flows_trans hfl q2)
    have hBn : mget B (t : Int) = none := h.2.2.2.2.2.2.1.out hu (by rw [hlu]; exact hs)
    refine ⟨tn (b' := none) (fun y => move_get nA hu (hw0 q)) (fun y => ?_) (h.2.2.1.move ho) (h.2.2.2.1.mono (Nat.le_succ _)) (fun w => ⟨fun q => (by cases q), fun q => absurd q.2 ?_⟩), hnf⟩
    · by_cases hy : y = (t : Int)
      · rw [if_pos hy, hy, hBn]
      · rw [if_neg hy]
    · have := q.1; injection this with this; rw [← this]; exact hnf
  · have hv : mget B (t : Int) = some u := h.2.2.2.2.2.2.1.in hu (by rw [hlu]; exact hf)
    refine ⟨by unfold moveE; rw [hu, hv], fun q => ?_, fun q => ⟨fun hf2 => ?_, fun hf2 => ?_⟩⟩
    · have hw : 0 < u.writes.length := Decidable.byContradiction fun hn => q (by rw [hE, if_neg hn])
      unfold moveM; rw [hv]; simp only []; rw [if_pos hw]
    · exact tn (b' := some (moveT u o.2 s)) (fun y => move_get nA hu (hw0 q)) (fun y => move_get nB hv (hw0 q)) (h.2.2.1.move ho) (h.2.2.2.1.move ho) (fun w => ⟨fun q => ⟨q, by injection q with q; rw [← q]; exact hf2⟩, fun q => q.1⟩)
    · have nB2 := (h.2.2.2.1.move (n := (t : Int)) (l := o.2) (s := s) ho).2.1
      refine tn (b' := none) (fun y => move_get nA hu (hw0 q)) (fun y => ?_) ((h.2.2.1.move ho).mono (Nat.le_succ _)) (h.2.2.2.1.move ho).del (fun w => ⟨fun q => (by cases q), fun q => absurd q.2 ?_⟩)
      · rw [mdel_get nB2, move_get nB hv (hw0 q)]
        by_cases hy : y = (t : Int)
        · rw [if_pos hy, if_pos hy]
        · rw [if_neg hy, if_neg hy, if_neg hy]
      · have := q.1; injection this with this; rw [← this]; exact hf2
end
end Go.Proofs.Ytmhdbphpmgjpcaa

/- Walks, written by a program: what each function of the translation hands back. -/
namespace Go.Proofs.Ytmhdbphpmgjpcaa
open Go.Gx Go.RowKit
attribute [local irreducible] wpList wpStill Code.wp Calls

end Go.Proofs.Ytmhdbphpmgjpcaa

/- Small laws for walks, the thirty-first part: arrays of one-cell elements, indexed by a variable. -/
namespace Go.Gx
open Go.RowKit
section
variable {P : Program} {Q : Exit → Act → World → Prop} {a : Act} {w : World} {l : List (Nat × Value)} {ops : Array Oper} {rest : List Oper}
variable {d ty xt t : Nat} {p : String} {af : Array Edge} {x y : Operand} {k : IntKind} {b c : Nat}
theorem op_index_arr1 {i : Int} {j : Nat} (hT : arrT P xt = some (c, 1)) (hx : (putsL a l).eval x = ptr b 0) (hy : (putsL a l).eval y = .int k i) (hj : i = (j : Int)) (h1 : j < c) (h : wpList P ops Q rest (putsL a ((d, ptr b j) :: l)) w) :
    wpList P ops Q (⟨some d, .indexAddr xt x y, ty, p, af, none⟩ :: rest) (putsL a l) w :=
  op_index_arr hT hx hy hj h1 (by rw [Nat.zero_add, Nat.mul_one]; exact h)
theorem row_at {α : Type} {f : α → Value} {A : List α} {d : α} {j : Nat} (h : j < A.length) : (A.map f)[j]? = some (f (A.getD j d)) := by
  simp [List.getD_eq_getElem?_getD, h]
theorem row_set {α : Type} {f : α → Value} {A : List α} {j : Nat} {x : α} (h : Bx w b t ((A.map f).set j (f x))) : Bx w b t ((A.set j x).map f) := by
  rw [List.map_set]; exact h
end
end Go.Gx

/- Small laws for walks, the thirty-second part: a region of open order in which what only copies slots may come at any time, and all else comes one by one. -/
namespace Go.Gx
open Go.RowKit
section
variable {P : Program} {ol : List Oper} {Q Q1 : Exit → Act → World → Prop}
end
end Go.Gx

/- Walks, written by a program: what each function of the translation hands back. -/
namespace Go.Proofs.Ytmhdbphpmgjpcaa
open Go.Gx Go.RowKit
attribute [local irreducible] wpList wpStill Code.wp Calls

theorem light_ret (o : OpT) (w : World) (hlm : (opL o).length ≤ 9223372036854775807) (hL0 : RdC w 0 w.heap.size 1 (opLv o) (opL o).length ((opL o).map u16v)) (hR0 : RdC w 0 w.heap.size 1 (opRv o) (opR o).length ((opR o).map sv)) : Ret Try.prog 56 #[(Value.agg #[(Value.int .i64 (opK o)), (Value.int .i64 (opN o)), (opLv o), (Value.int .u64 ((opS o).toNat : Int)), (opRv o), (Value.string (bs (opW o)))])] w (fun v' w' => Below w.heap.size w w' ∧ v' = .bool (lightB o)) := by
 have hb := Below.refl w.heap.size w
 refine enter (N := 34) Try.func56 rfl rfl (by simp) fun a0 hN hd hA => ?_
 have s0 : a0.tmps.getD 0 undef = (Value.agg #[(Value.int .i64 (opK o)), (Value.int .i64 (opN o)), (opLv o), (Value.int .u64 ((opS o).toNat : Int)), (opRv o), (Value.string (bs (opW o)))]) := hA 0 (by simp)
 clear hA
 refine seq_any fun K1 hK1 => ?_
 refine one_reg ?_
 refine op_box (cs := [(Value.int .i64 (opK o)), (Value.int .i64 (opN o)), (opLv o), (Value.int .u64 ((opS o).toNat : Int)), (opRv o), (Value.string (bs (opW o)))]) (ev_base hN rfl s0) rfl ?_
 intro w2 b3 lo_b3 hi_b3 hB5 E4
 have z_w2 := E4.size
 have hL0 := hL0.keep0 E4
 have hR0 := hR0.keep0 E4
 have hb := below_step0 hb E4 hb.size
 refine op_assign rfl ?_
 refine reg_nil ?_
 refine hK1 _ _ ?_
 refine seq_any fun K6 hK6 => ?_
 refine seq_any fun K7 hK7 => ?_
 refine one_reg ?_
 refine op_field fld103_2 (ev_hit hN rfl) ?_
 refine op_load1 (v := (opLv o)) one54 (ev_hit hN rfl) (hB5.cell rfl) ?_
 refine op_fn (vs := [(opLv o)]) ok33 ⟨(ev_hit hN rfl), trivial⟩ (refMay_ret (opL o) _ _ (by first | assumption | omega | (simp only [List.length_append, List.length_cons, List.length_nil, List.length_drop, List.length_take]; omega) | (dsimp only; omega) | decide | (simp [keyV, be8_len]; done)) (show RdC w2 0 w2.heap.size 1 (opLv o) (opL o).length ((opL o).map u16v) from by have hh : RdC w2 0 w2.heap.size 1 _ _ _ := (hL0.mono (L' := 0) (B' := w2.heap.size) (Nat.zero_le _) (by omega)); first | exact hh | exact hh.cast (by first | omega | (simp; try omega)) (by first | rfl | simp [u16v]))) ?_
 rintro _ w8 ⟨E9, rfl⟩
 have E9 := grown_of_below E9
 have z_w8 := E9.size
 have hL0 := hL0.keep0 E9
 have hR0 := hR0.keep0 E9
 have hB5 := hB5.keep0 E9
 have hb := below_step0 hb E9 hb.size
 rcases Bool.eq_false_or_eq_true ((mayL (opL o))) with c6 | c6
 · -- 6T
  rw [c6]
  refine op_not (ev_hit hN rfl) ?_
  refine op_move (ev_hit hN rfl) ?_
  refine g_true (j := 4) (dj := 8) (b := false) rfl rfl rfl (ev_hit hN rfl) ?_
  refine op_field fld103_4 (ev_hit hN rfl) ?_
  refine g_true (j := 4) (dj := 8) (b := false) rfl rfl rfl (ev_hit hN rfl) ?_
  refine op_load1 (v := (opRv o)) one26 (ev_hit hN rfl) (hB5.cell rfl) ?_
  refine g_true (j := 4) (dj := 8) (b := false) rfl rfl rfl (ev_hit hN rfl) ?_
  refine op_len_rd Try.underlying26 (ev_hit hN rfl) hR0 ?_
  refine g_true (j := 4) (dj := 8) (b := false) rfl rfl rfl (ev_hit hN rfl) ?_
  refine op_gtr (ev_hit hN rfl) rfl (fun c12 => ?_) (fun c12 => ?_)
  · -- 12T
   refine op_pick_f (ev_hit hN rfl) (ev_hit hN rfl) ?_
   refine op_move (ev_hit hN rfl) ?_
   refine g_false (j := 10) (dj := 14) (b := false) rfl rfl rfl (ev_hit hN rfl) rfl rfl ?_
   refine g_false (j := 10) (dj := 14) (b := false) rfl rfl rfl (ev_hit hN rfl) rfl rfl ?_
   refine g_false (j := 10) (dj := 14) (b := false) rfl rfl rfl (ev_hit hN rfl) rfl rfl ?_
   refine g_false (j := 10) (dj := 14) (b := false) rfl rfl rfl (ev_hit hN rfl) rfl rfl ?_
   refine op_pick_t (ev_hit hN rfl) rfl ?_
   refine reg_nil ?_
   refine hK7 _ _ ?_
   refine wp_cond_true (ev_hit hN rfl) ?_
   refine seq_any fun K10 hK10 => ?_
   refine one_reg ?_
   refine op_assign rfl ?_
   refine reg_nil ?_
   refine hK10 _ _ ?_
   refine wp_ret (then_ret ( ?_))
   refine ret1 rfl hd (ev_hit hN rfl) ⟨_, rfl, ?_⟩
   -- path 6T 12T
   exact ⟨hb, congrArg Value.bool (Eq.symm (lightB_f (fun h => by have := h.2.1; omega)))⟩
  · -- 12F
   refine op_pick_f (ev_hit hN rfl) (ev_hit hN rfl) ?_
   refine op_move (ev_hit hN rfl) ?_
   refine g_true (j := 10) (dj := 14) (b := false) rfl rfl rfl (ev_hit hN rfl) ?_
   refine op_field fld103_5 (ev_hit hN rfl) ?_
   refine g_true (j := 10) (dj := 14) (b := false) rfl rfl rfl (ev_hit hN rfl) ?_
   refine op_load1 (v := (Value.string (bs (opW o)))) one9 (ev_hit hN rfl) (hB5.cell rfl) ?_
   refine g_true (j := 10) (dj := 14) (b := false) rfl rfl rfl (ev_hit hN rfl) ?_
   refine op_len_str Try.underlying9 (ev_hit hN rfl) ?_
   refine g_true (j := 10) (dj := 14) (b := false) rfl rfl rfl (ev_hit hN rfl) ?_
   refine op_gtr (ev_hit hN rfl) rfl (fun c18 => ?_) (fun c18 => ?_)
   · -- 18T
    refine op_pick_f (ev_hit hN rfl) (ev_hit hN rfl) ?_
    refine reg_nil ?_
    refine hK7 _ _ ?_
    refine wp_cond_true (ev_hit hN rfl) ?_
    refine seq_any fun K11 hK11 => ?_
    refine one_reg ?_
    refine op_assign rfl ?_
    refine reg_nil ?_
    refine hK11 _ _ ?_
    refine wp_ret (then_ret ( ?_))
    refine ret1 rfl hd (ev_hit hN rfl) ⟨_, rfl, ?_⟩
    -- path 6T 12F 18T
    exact ⟨hb, congrArg Value.bool (Eq.symm (lightB_f (fun h => by have := h.2.2.1; omega)))⟩
   · -- 18F
    refine op_pick_f (ev_hit hN rfl) (ev_hit hN rfl) ?_
    refine reg_nil ?_
    refine hK7 _ _ ?_
    refine wp_cond_false (ev_hit hN rfl) ?_
    refine wp_skip ?_
    refine hK6 _ _ ?_
    refine seq_any fun K12 hK12 => ?_
    refine seq_any fun K13 hK13 => ?_
    refine one_reg ?_
    refine op_assign rfl ?_
    refine reg_nil ?_
    refine hK13 _ _ ?_
    refine wp_block ?_
    refine loop_m (fun mz_ az_ w' => ∃ (i : Nat), mz_ = (opR o).length - i ∧ (az_.tmps.getD 1 undef = (ptr b3 0)) ∧ (az_.tmps.getD 3 undef = (Value.int .i64 ((i : Nat) : Int))) ∧ (i ≤ (opR o).length) ∧ (∀ j, j < i → ((opR o).getD j []).length ≤ 20) ∧ (Below w.heap.size w w') ∧ (w8.heap.size ≤ w'.heap.size) ∧ (RdC w' 0 w.heap.size 1 (opLv o) (opL o).length ((opL o).map u16v)) ∧ (RdC w' 0 w.heap.size 1 (opRv o) (opR o).length ((opR o).map sv)) ∧ (Bx w' b3 103 [(Value.int .i64 (opK o)), (Value.int .i64 (opN o)), (opLv o), (Value.int .u64 ((opS o).toNat : Int)), (opRv o), (Value.string (bs (opW o)))])) _ hN hd ⟨0, rfl, (sl_hit hN rfl), (sl_hit hN rfl), (Nat.zero_le _), (fun _ h => absurd h (Nat.not_lt_zero _)), hb, (Nat.le_refl _), hL0, hR0, hB5⟩ ?_
    rintro _ a14 w14 hN14 hd14 ⟨i, rfl, s14_1, s14_3, hi, hj, hb, zl_w14, hL0, hR0, hB5⟩
    have z_w14 := hb.size
    refine seq_any fun K15 hK15 => ?_
    refine seq_any fun K16 hK16 => ?_
    refine one_reg ?_
    refine op_move (ev_base hN14 rfl s14_3) ?_
    refine op_field fld103_4 (ev_base hN14 rfl s14_1) ?_
    refine op_load1 (v := (opRv o)) one26 (ev_hit hN14 rfl) (hB5.cell rfl) ?_
    refine op_len_rd Try.underlying26 (ev_hit hN14 rfl) hR0 ?_
    refine op_lss (ev_hit hN14 rfl) (ev_hit hN14 rfl) (fun c24 => ?_) (fun c24 => ?_)
    · -- 24T
     refine reg_nil ?_
     refine hK16 _ _ ?_
     refine wp_cond_true (ev_hit hN14 rfl) ?_
     refine wp_skip ?_
     refine hK15 _ _ ?_
     refine seq_any fun K17 hK17 => ?_
     refine wp_block ?_
     refine seq_any fun K18 hK18 => ?_
     refine one_reg ?_
     refine op_field fld103_4 (ev_base hN14 rfl s14_1) ?_
     refine op_load1 (v := (opRv o)) one26 (ev_hit hN14 rfl) (hB5.cell rfl) ?_
     refine op_move (ev_base hN14 rfl s14_3) ?_
     refine op_index_rd slt26 (ev_hit hN14 rfl) hR0 (ev_hit hN14 rfl) (by omega) (by omega) ?_
     intro b19 o20 h0b19 h1b19 hc21
     refine op_load1 (v := (Value.string (bs ((opR o).getD i [])))) one9 (ev_hit hN14 rfl) (by have := hc21 0 (Value.string (bs ((opR o).getD i []))) (by decide) (el_sv (i := i) (by omega) (by omega)); simpa using this) ?_
     refine op_len_str Try.underlying9 (ev_hit hN14 rfl) ?_
     refine op_gtr (ev_hit hN14 rfl) rfl (fun c33 => ?_) (fun c33 => ?_)
     · -- 33T
      refine reg_nil ?_
      refine hK18 _ _ ?_
      refine wp_cond_true (ev_hit hN14 rfl) ?_
      refine seq_any fun K22 hK22 => ?_
      refine one_reg ?_
      refine op_assign rfl ?_
      refine reg_nil ?_
      refine hK22 _ _ ?_
      refine wp_ret (blk_ret (then_ret (then_ret (blk_ret (then_ret ( ?_))))))
      refine ret1 rfl hd14 (ev_hit hN14 rfl) ⟨_, rfl, ?_⟩
      -- path 6T 12F 18F 24T 33T
      exact ⟨hb, congrArg Value.bool (Eq.symm (lightB_f (fun h => by have := h.2.2.2 _ (getD_mem (d := []) (show i < (opR o).length by omega)); omega)))⟩
     · -- 33F
      refine reg_nil ?_
      refine hK18 _ _ ?_
      refine wp_cond_false (ev_hit hN14 rfl) ?_
      refine wp_skip ?_
      refine hK17 _ _ ?_
      refine one_reg ?_
      refine op_move (ev_base hN14 rfl s14_3) ?_
      refine op_add (ev_hit hN14 rfl) rfl (add64 (by omega)) ?_
      refine op_assign (ev_hit hN14 rfl) ?_
      refine reg_nil ?_
      -- round 6T 12F 18F 24T 33F
      exact loop_next _ hN14 hd14 ⟨(i + 1), rfl, (sl_base hN14 rfl s14_1), (sl_hit hN14 rfl).trans (congrArg (Value.int .i64) (by omega)), (by omega), (le_upto hj (by omega)), hb, (by omega), hL0, hR0, hB5⟩ (by omega)
    · -- 24F
     refine reg_nil ?_
     refine hK16 _ _ ?_
     refine wp_cond_false (ev_hit hN14 rfl) ?_
     refine wp_exit (then_exit (then_exit (blk_hit ?_)))
     refine hK12 _ _ ?_
     refine seq_any fun K23 hK23 => ?_
     refine one_reg ?_
     refine op_assign rfl ?_
     refine reg_nil ?_
     refine hK23 _ _ ?_
     refine wp_ret ?_
     refine ret1 rfl hd14 (ev_hit hN14 rfl) ⟨_, rfl, ?_⟩
     -- path 6T 12F 18F 24F
     exact ⟨hb, congrArg Value.bool (Eq.symm (lightB_t ⟨c6, by omega, by omega, fun r hr => by obtain ⟨j, h1, rfl⟩ := mem_getD (d := []) hr; exact hj j (by omega)⟩))⟩
 · -- 6F
  rw [c6]
  refine op_not (ev_hit hN rfl) ?_
  refine op_move (ev_hit hN rfl) ?_
  refine g_false (j := 4) (dj := 8) (b := false) rfl rfl rfl (ev_hit hN rfl) rfl rfl ?_
  refine g_false (j := 4) (dj := 8) (b := false) rfl rfl rfl (ev_hit hN rfl) rfl rfl ?_
  refine g_false (j := 4) (dj := 8) (b := false) rfl rfl rfl (ev_hit hN rfl) rfl rfl ?_
  refine g_false (j := 4) (dj := 8) (b := false) rfl rfl rfl (ev_hit hN rfl) rfl rfl ?_
  refine op_pick_t (ev_hit hN rfl) rfl ?_
  refine op_move (ev_hit hN rfl) ?_
  refine g_false (j := 10) (dj := 14) (b := false) rfl rfl rfl (ev_hit hN rfl) rfl rfl ?_
  refine g_false (j := 10) (dj := 14) (b := false) rfl rfl rfl (ev_hit hN rfl) rfl rfl ?_
  refine g_false (j := 10) (dj := 14) (b := false) rfl rfl rfl (ev_hit hN rfl) rfl rfl ?_
  refine g_false (j := 10) (dj := 14) (b := false) rfl rfl rfl (ev_hit hN rfl) rfl rfl ?_
  refine op_pick_t (ev_hit hN rfl) rfl ?_
  refine reg_nil ?_
  refine hK7 _ _ ?_
  refine wp_cond_true (ev_hit hN rfl) ?_
  refine seq_any fun K24 hK24 => ?_
  refine one_reg ?_
  refine op_assign rfl ?_
  refine reg_nil ?_
  refine hK24 _ _ ?_
  refine wp_ret (then_ret ( ?_))
  refine ret1 rfl hd (ev_hit hN rfl) ⟨_, rfl, ?_⟩
  -- path 6F
  exact ⟨hb, congrArg Value.bool (Eq.symm (lightB_f (fun h => by rw [h.1] at c6; cases c6)))⟩

end Go.Proofs.Ytmhdbphpmgjpcaa

/- Walks, written by a program: what each function of the translation hands back. -/
namespace Go.Proofs.Ytmhdbphpmgjpcaa
open Go.Gx Go.RowKit
attribute [local irreducible] wpList wpStill Code.wp Calls

theorem do_ret {base k lo : Nat} {M : TM} {F : Nat → Prop} {lv rv : Value} {l : List UInt16} {R : List (List UInt8)} {x : List UInt8} {K n s : Int} (kd : Nat) {w : World} (hbase : base ≤ w.heap.size) (hok : MOk M) (hsm : MSm M) (hl8 : l.length ≤ 8) (hR8 : R.length ≤ 8) (hl : RdC w 0 lo 1 lv l.length (l.map u16v)) (hRs : RdC w 0 lo 1 rv R.length (R.map sv)) (hlo : lo ≤ base) (hK : LocksR w base k M F) : Ret Try.prog 58 #[(ptr k 0), (Value.agg #[(Value.int .i64 K), (Value.int .i64 n), lv, (Value.int .u64 s), rv, (Value.string (bs x))]), (Value.int .i64 ((kd : Nat) : Int))] w (fun v' w' => Gr w w' F ∧ v' = .int .i64 (doV M kd n R x) ∧ ∃ F', LocksR w' base k (doM M kd n l s R x) F' ∧ NewF w.heap.size F F') := by
 have hb := Gr.refl w F
 refine enter (N := 70) Try.func58 rfl rfl (by simp) fun a0 hN hd hA => ?_
 have s0 : a0.tmps.getD 0 undef = (ptr k 0) := hA 0 (by simp)
 have s1 : a0.tmps.getD 1 undef = (Value.agg #[(Value.int .i64 K), (Value.int .i64 n), lv, (Value.int .u64 s), rv, (Value.string (bs x))]) := hA 1 (by simp)
 have s2 : a0.tmps.getD 2 undef = (Value.int .i64 ((kd : Nat) : Int)) := hA 2 (by simp)
 clear hA
 refine seq_any fun K1 hK1 => ?_
 refine one_reg ?_
 refine op_box (cs := [(Value.int .i64 K), (Value.int .i64 n), lv, (Value.int .u64 s), rv, (Value.string (bs x))]) (ev_base hN rfl s1) rfl ?_
 intro w2 b3 lo_b3 hi_b3 hB5 E4
 have dj6 : ¬ F b3 := fun hf => by have := (hK.lt _ hf).2; omega
 have z_w2 := E4.size
 have hK := hK.keepG (Gr.of0 E4 NoB) (fun _ _ h => h)
 have hl := hl.keep0 E4
 have hRs := hRs.keep0 E4
 have hb := hb.step0 E4
 refine op_assign rfl ?_
 refine reg_nil ?_
 refine hK1 _ _ ?_
 refine seq_any fun K7 hK7 => ?_
 refine seq_any fun K8 hK8 => ?_
 refine one_reg ?_
 refine op_move (ev_base hN rfl s2) ?_
 refine reg_nil ?_
 refine hK8 _ _ ?_
 refine wp_block ?_
 refine seq_any fun K9 hK9 => ?_
 refine seq_any fun K10 hK10 => ?_
 refine one_reg ?_
 refine op_eql (ev_hit hN rfl) rfl (fun c13 => ?_) (fun c13 => ?_)
 · -- 13T
  refine op_assign (ev_hit hN rfl) ?_
  refine reg_nil ?_
  refine hK10 _ _ ?_
  refine wp_cond_true (ev_hit hN rfl) ?_
  refine wp_skip ?_
  refine hK9 _ _ ?_
  refine wp_cond_true (ev_hit hN rfl) ?_
  refine seq_any fun K11 hK11 => ?_
  refine one_reg ?_
  refine op_move (ev_base hN rfl s0) ?_
  refine op_field fld103_1 (ev_hit hN rfl) ?_
  refine op_load1 (v := (Value.int .i64 n)) one3 (ev_hit hN rfl) (hB5.cell rfl) ?_
  refine op_field fld103_2 (ev_hit hN rfl) ?_
  refine op_load1 (v := lv) one54 (ev_hit hN rfl) (hB5.cell rfl) ?_
  refine op_field fld103_3 (ev_hit hN rfl) ?_
  refine op_load1 (v := (Value.int .u64 s)) one61 (ev_hit hN rfl) (hB5.cell rfl) ?_
  refine op_fn (vs := [(ptr k 0), (Value.int .i64 n), lv, (Value.int .u64 s)]) ok54 ⟨(ev_hit hN rfl), ⟨(ev_hit hN rfl), ⟨(ev_hit hN rfl), ⟨(ev_hit hN rfl), trivial⟩⟩⟩⟩ (EnterR (n := n) (s := s) (l := l) (by omega) (lo := lo) hl (by omega) (by first | decide | omega) hK) ?_
  rintro _ w13 ⟨E14, rfl, F12, hl12, hN12⟩
  have bd15 := hB5.lt
  have hK_old := hK
  have z_w13 := E14.size
  have hl := hl.keepG E14 (fun k hk => .inr (by have := hK_old.lt k hk; omega))
  have hRs := hRs.keepG E14 (fun k hk => .inr (by have := hK_old.lt k hk; omega))
  have hB5 := hB5.keepG E14 dj6
  have hb := hb.stepF E14 (fun _ _ h => h)
  have dj16 : ¬ F12 b3 := ne_stepF hN12 bd15 dj6
  refine op_assign (ev_hit hN rfl) ?_
  refine reg_nil ?_
  refine hK11 _ _ ?_
  refine wp_ret (blk_ret (then_ret ( ?_)))
  refine ret1 rfl hd (ev_hit hN rfl) ⟨_, rfl, ?_⟩
  -- path 13T
  rw [doV_0 (show kd < 2 by omega), doM_0 (show kd < 2 by omega)]
  exact ⟨hb, rfl, F12, hl12, hN12.mono (by omega)⟩
 · -- 13F
  refine op_assign (ev_hit hN rfl) ?_
  refine reg_nil ?_
  refine hK10 _ _ ?_
  refine wp_cond_false (ev_hit hN rfl) ?_
  refine one_reg ?_
  refine op_eql (ev_hit hN rfl) rfl (fun c14 => ?_) (fun c14 => ?_)
  · -- 14T
   refine op_assign (ev_hit hN rfl) ?_
   refine reg_nil ?_
   refine hK9 _ _ ?_
   refine wp_cond_true (ev_hit hN rfl) ?_
   refine seq_any fun K17 hK17 => ?_
   refine one_reg ?_
   refine op_move (ev_base hN rfl s0) ?_
   refine op_field fld103_1 (ev_hit hN rfl) ?_
   refine op_load1 (v := (Value.int .i64 n)) one3 (ev_hit hN rfl) (hB5.cell rfl) ?_
   refine op_field fld103_2 (ev_hit hN rfl) ?_
   refine op_load1 (v := lv) one54 (ev_hit hN rfl) (hB5.cell rfl) ?_
   refine op_field fld103_3 (ev_hit hN rfl) ?_
   refine op_load1 (v := (Value.int .u64 s)) one61 (ev_hit hN rfl) (hB5.cell rfl) ?_
   refine op_fn (vs := [(ptr k 0), (Value.int .i64 n), lv, (Value.int .u64 s)]) ok54 ⟨(ev_hit hN rfl), ⟨(ev_hit hN rfl), ⟨(ev_hit hN rfl), ⟨(ev_hit hN rfl), trivial⟩⟩⟩⟩ (EnterR (n := n) (s := s) (l := l) (by omega) (lo := lo) hl (by omega) (by first | decide | omega) hK) ?_
   rintro _ w19 ⟨E20, rfl, F18, hl18, hN18⟩
   have bd21 := hB5.lt
   have hK_old := hK
   have z_w19 := E20.size
   have hl := hl.keepG E20 (fun k hk => .inr (by have := hK_old.lt k hk; omega))
   have hRs := hRs.keepG E20 (fun k hk => .inr (by have := hK_old.lt k hk; omega))
   have hB5 := hB5.keepG E20 dj6
   have hb := hb.stepF E20 (fun _ _ h => h)
   have dj22 : ¬ F18 b3 := ne_stepF hN18 bd21 dj6
   refine op_assign (ev_hit hN rfl) ?_
   refine reg_nil ?_
   refine hK17 _ _ ?_
   refine wp_ret (blk_ret (then_ret ( ?_)))
   refine ret1 rfl hd (ev_hit hN rfl) ⟨_, rfl, ?_⟩
   -- path 13F 14T
   rw [doV_0 (show kd < 2 by omega), doM_0 (show kd < 2 by omega)]
   exact ⟨hb, rfl, F18, hl18, hN18.mono (by omega)⟩
  · -- 14F
   refine op_assign (ev_hit hN rfl) ?_
   refine reg_nil ?_
   refine hK9 _ _ ?_
   refine wp_cond_false (ev_hit hN rfl) ?_
   refine seq_any fun K23 hK23 => ?_
   refine one_reg ?_
   refine op_eql (ev_hit hN rfl) rfl (fun c24 => ?_) (fun c24 => ?_)
   · -- 24T
    refine op_assign (ev_hit hN rfl) ?_
    refine reg_nil ?_
    refine hK23 _ _ ?_
    refine wp_cond_true (ev_hit hN rfl) ?_
    refine seq_any fun K24 hK24 => ?_
    refine one_reg ?_
    refine op_move (ev_base hN rfl s0) ?_
    refine op_field fld103_1 (ev_hit hN rfl) ?_
    refine op_load1 (v := (Value.int .i64 n)) one3 (ev_hit hN rfl) (hB5.cell rfl) ?_
    refine op_field fld103_2 (ev_hit hN rfl) ?_
    refine op_load1 (v := lv) one54 (ev_hit hN rfl) (hB5.cell rfl) ?_
    refine op_field fld103_3 (ev_hit hN rfl) ?_
    refine op_load1 (v := (Value.int .u64 s)) one61 (ev_hit hN rfl) (hB5.cell rfl) ?_
    refine op_fn (vs := [(ptr k 0), (Value.int .i64 n), lv, (Value.int .u64 s)]) ok59 ⟨(ev_hit hN rfl), ⟨(ev_hit hN rfl), ⟨(ev_hit hN rfl), ⟨(ev_hit hN rfl), trivial⟩⟩⟩⟩ (MoveR (n := n) (s := s) (l := l) (by omega) (hl.mono (Nat.zero_le _) (by omega)) (by first | decide | omega) hK) ?_
    rintro _ w26 ⟨E27, rfl, F25, hl25, hN25⟩
    have bd28 := hB5.lt
    have hK_old := hK
    have z_w26 := E27.size
    have hl := hl.keepG E27 (fun k hk => .inr (by have := hK_old.lt k hk; omega))
    have hRs := hRs.keepG E27 (fun k hk => .inr (by have := hK_old.lt k hk; omega))
    have hB5 := hB5.keepG E27 dj6
    have hb := hb.stepF E27 (fun _ _ h => h)
    have dj29 : ¬ F25 b3 := ne_stepF hN25 bd28 dj6
    refine op_assign (ev_hit hN rfl) ?_
    refine reg_nil ?_
    refine hK24 _ _ ?_
    refine wp_ret (blk_ret (then_ret ( ?_)))
    refine ret1 rfl hd (ev_hit hN rfl) ⟨_, rfl, ?_⟩
    -- path 13F 14F 24T
    rw [doV_2 (show kd = 2 by omega), doM_2 (show kd = 2 by omega)]
    exact ⟨hb, rfl, F25, hl25, hN25.mono (by omega)⟩
   · -- 24F
    refine op_assign (ev_hit hN rfl) ?_
    refine reg_nil ?_
    refine hK23 _ _ ?_
    refine wp_cond_false (ev_hit hN rfl) ?_
    refine seq_any fun K30 hK30 => ?_
    refine one_reg ?_
    refine op_eql (ev_hit hN rfl) rfl (fun c34 => ?_) (fun c34 => ?_)
    · -- 34T
     refine op_assign (ev_hit hN rfl) ?_
     refine reg_nil ?_
     refine hK30 _ _ ?_
     refine wp_cond_true (ev_hit hN rfl) ?_
     refine seq_any fun K31 hK31 => ?_
     refine one_reg ?_
     refine op_move (ev_base hN rfl s0) ?_
     refine op_field fld103_1 (ev_hit hN rfl) ?_
     refine op_load1 (v := (Value.int .i64 n)) one3 (ev_hit hN rfl) (hB5.cell rfl) ?_
     refine op_fn (vs := [(ptr k 0), (Value.int .i64 n)]) ok60 ⟨(ev_hit hN rfl), ⟨(ev_hit hN rfl), trivial⟩⟩ (CommitR (n := n) (by omega) hok hK) ?_
     rintro _ w33 ⟨E34, v32, rfl, hO32, F32, hl32, hN32, hd32⟩
     have bd35 := hB5.lt
     have hK_old := hK
     have z_w33 := E34.size
     have hl := hl.keepG E34 (fun k hk => .inr (by have := hK_old.lt k hk; omega))
     have hRs := hRs.keepG E34 (fun k hk => .inr (by have := hK_old.lt k hk; omega))
     have hB5 := hB5.keepG E34 dj6
     have hb := hb.stepF E34 (fun _ _ h => h)
     have dj36 : ¬ F32 b3 := ne_stepF hN32 bd35 dj6
     have hO32 := hO32.mono (base' := w.heap.size) (by omega)
     refine op_move (ev_hit hN rfl) ?_
     refine op_extract (ev_hit hN rfl) rfl ?_
     refine op_extract (ev_hit hN rfl) rfl ?_
     refine op_assign (ev_hit hN rfl) ?_
     refine op_assign (ev_hit hN rfl) ?_
     refine reg_nil ?_
     refine hK31 _ _ ?_
     refine seq_any fun K37 hK37 => ?_
     refine one_reg ?_
     refine op_move (ev_hit hN rfl) ?_
     refine op_assign (ev_hit hN rfl) ?_
     refine reg_nil ?_
     refine hK37 _ _ ?_
     refine wp_ret (blk_ret (then_ret ( ?_)))
     refine ret1 rfl hd (ev_hit hN rfl) ⟨_, rfl, ?_⟩
     -- path 13F 14F 24F 34T
     rw [doV_8 (show kd = 8 by omega), doM_8 (show kd = 8 by omega)]
     exact ⟨hb, rfl, F32, hl32, hN32.mono (by omega)⟩
    · -- 34F
     refine op_assign (ev_hit hN rfl) ?_
     refine reg_nil ?_
     refine hK30 _ _ ?_
     refine wp_cond_false (ev_hit hN rfl) ?_
     refine seq_any fun K38 hK38 => ?_
     refine one_reg ?_
     refine op_eql (ev_hit hN rfl) rfl (fun c44 => ?_) (fun c44 => ?_)
     · -- 44T
      refine op_assign (ev_hit hN rfl) ?_
      refine reg_nil ?_
      refine hK38 _ _ ?_
      refine wp_cond_true (ev_hit hN rfl) ?_
      refine seq_any fun K39 hK39 => ?_
      refine one_reg ?_
      refine op_move (ev_base hN rfl s0) ?_
      refine op_field fld103_1 (ev_hit hN rfl) ?_
      refine op_load1 (v := (Value.int .i64 n)) one3 (ev_hit hN rfl) (hB5.cell rfl) ?_
      refine op_fn (vs := [(ptr k 0), (Value.int .i64 n)]) ok57 ⟨(ev_hit hN rfl), ⟨(ev_hit hN rfl), trivial⟩⟩ (LeaveR (n := n) (by omega) hK) ?_
      rintro _ w41 ⟨E42, rfl, F40, hl40, hN40⟩
      have bd43 := hB5.lt
      have hK_old := hK
      have z_w41 := E42.size
      have hl := hl.keepG E42 (fun k hk => .inr (by have := hK_old.lt k hk; omega))
      have hRs := hRs.keepG E42 (fun k hk => .inr (by have := hK_old.lt k hk; omega))
      have hB5 := hB5.keepG E42 dj6
      have hb := hb.stepF E42 (fun _ _ h => h)
      have dj44 : ¬ F40 b3 := ne_stepF hN40 bd43 dj6
      refine op_assign (ev_hit hN rfl) ?_
      refine reg_nil ?_
      refine hK39 _ _ ?_
      refine wp_ret (blk_ret (then_ret ( ?_)))
      refine ret1 rfl hd (ev_hit hN rfl) ⟨_, rfl, ?_⟩
      -- path 13F 14F 24F 34F 44T
      rw [doV_9 (show kd = 9 by omega), doM_9 (show kd = 9 by omega)]
      exact ⟨hb, rfl, F40, hl40, hN40.mono (by omega)⟩
     · -- 44F
      refine op_assign (ev_hit hN rfl) ?_
      refine reg_nil ?_
      refine hK38 _ _ ?_
      refine wp_cond_false (ev_hit hN rfl) ?_
      refine seq_any fun K45 hK45 => ?_
      refine one_reg ?_
      refine op_eql (ev_hit hN rfl) rfl (fun c50 => ?_) (fun c50 => ?_)
      · -- 50T
       refine op_assign (ev_hit hN rfl) ?_
       refine reg_nil ?_
       refine hK45 _ _ ?_
       refine wp_cond_true (ev_hit hN rfl) ?_
       refine seq_any fun K46 hK46 => ?_
       refine seq_any fun K47 hK47 => ?_
       refine one_reg ?_
       refine op_move (ev_base hN rfl s0) ?_
       refine op_field fld103_1 (ev_hit hN rfl) ?_
       refine op_load1 (v := (Value.int .i64 n)) one3 (ev_hit hN rfl) (hB5.cell rfl) ?_
       refine op_fn (vs := [(ptr k 0), (Value.int .i64 n)]) ok62 ⟨(ev_hit hN rfl), ⟨(ev_hit hN rfl), trivial⟩⟩ (DoomedR (n := n) hK) ?_
       rintro _ w48 ⟨E49, rfl⟩
       have E49 := grown_of_below E49
       have z_w48 := E49.size
       have hK := hK.keepG (Gr.of0 E49 NoB) (fun _ _ h => h)
       have hl := hl.keep0 E49
       have hRs := hRs.keep0 E49
       have hB5 := hB5.keep0 E49
       have hb := hb.step0 E49
       rcases Bool.eq_false_or_eq_true ((txAt M n).doomed) with c54 | c54
       · -- 54T
        rw [c54]
        refine reg_nil ?_
        refine hK47 _ _ ?_
        refine wp_cond_true (ev_hit hN rfl) ?_
        refine seq_any fun K50 hK50 => ?_
        refine one_reg ?_
        refine op_assign rfl ?_
        refine reg_nil ?_
        refine hK50 _ _ ?_
        refine wp_ret (then_ret (blk_ret (then_ret ( ?_))))
        refine ret1 rfl hd (ev_hit hN rfl) ⟨_, rfl, ?_⟩
        -- path 13F 14F 24F 34F 44F 50T 54T
        rw [doV_10 (show kd = 10 by omega), doM_10 (show kd = 10 by omega)]
        exact ⟨hb, congrArg (Value.int .i64) (by rw [c54]; rfl), F, hK, NewF.refl _ _⟩
       · -- 54F
        rw [c54]
        refine reg_nil ?_
        refine hK47 _ _ ?_
        refine wp_cond_false (ev_hit hN rfl) ?_
        refine wp_skip ?_
        refine hK46 _ _ ?_
        refine seq_any fun K51 hK51 => ?_
        refine one_reg ?_
        refine op_assign rfl ?_
        refine reg_nil ?_
        refine hK51 _ _ ?_
        refine wp_ret (blk_ret (then_ret ( ?_)))
        refine ret1 rfl hd (ev_hit hN rfl) ⟨_, rfl, ?_⟩
        -- path 13F 14F 24F 34F 44F 50T 54F
        rw [doV_10 (show kd = 10 by omega), doM_10 (show kd = 10 by omega)]
        exact ⟨hb, congrArg (Value.int .i64) (by rw [c54]; rfl), F, hK, NewF.refl _ _⟩
      · -- 50F
       refine op_assign (ev_hit hN rfl) ?_
       refine reg_nil ?_
       refine hK45 _ _ ?_
       refine wp_cond_false (ev_hit hN rfl) ?_
       refine wp_skip ?_
       refine hK7 _ _ ?_
       refine seq_any fun K52 hK52 => ?_
       refine one_reg ?_
       refine op_move (ev_base hN rfl s0) ?_
       refine op_field fld103_1 (ev_hit hN rfl) ?_
       refine op_load1 (v := (Value.int .i64 n)) one3 (ev_hit hN rfl) (hB5.cell rfl) ?_
       refine op_field fld103_4 (ev_hit hN rfl) ?_
       refine op_load1 (v := rv) one26 (ev_hit hN rfl) (hB5.cell rfl) ?_
       refine op_field fld103_5 (ev_hit hN rfl) ?_
       refine op_load1 (v := (Value.string (bs x))) one9 (ev_hit hN rfl) (hB5.cell rfl) ?_
       refine op_fn (vs := [(ptr k 0), (Value.int .i64 n), rv, (Value.string (bs x))]) ok55 ⟨(ev_hit hN rfl), ⟨(ev_hit hN rfl), ⟨(ev_hit hN rfl), ⟨(ev_hit hN rfl), trivial⟩⟩⟩⟩ (AskR (n := n) (Rs := R) (x := x) (by omega) hok hsm (by omega) hRs (by omega) (fun y hy => .inr (Nat.le_trans (by omega) (hK.lt y hy).1)) hK) ?_
       rintro _ w54 ⟨E55, rfl, F53, hl53, hN53⟩
       have bd56 := hB5.lt
       have hK_old := hK
       have z_w54 := E55.size
       have hl := hl.keepG E55 (fun k hk => .inr (by have := hK_old.lt k hk; omega))
       have hRs := hRs.keepG E55 (fun k hk => .inr (by have := hK_old.lt k hk; omega))
       have hB5 := hB5.keepG E55 dj6
       have hb := hb.stepF E55 (fun _ _ h => h)
       have dj57 : ¬ F53 b3 := ne_stepF hN53 bd56 dj6
       refine op_move (ev_hit hN rfl) ?_
       refine op_extract (ev_hit hN rfl) rfl ?_
       refine op_extract (ev_hit hN rfl) rfl ?_
       refine op_assign (ev_hit hN rfl) ?_
       refine op_assign (ev_hit hN rfl) ?_
       refine reg_nil ?_
       refine hK52 _ _ ?_
       refine seq_any fun K58 hK58 => ?_
       refine one_reg ?_
       have hae := askE_le (M := M) (n := n)
       have hav := askV_le (M := M) (n := n) (R := R) (x := x)
       refine op_move (ev_hit hN rfl) ?_
       refine op_mul rfl (ev_hit hN rfl) (mul64 (by omega)) ?_
       refine op_move (ev_hit hN rfl) ?_
       refine op_add (ev_hit hN rfl) (ev_hit hN rfl) (add64 (by omega)) ?_
       refine op_assign (ev_hit hN rfl) ?_
       refine reg_nil ?_
       refine hK58 _ _ ?_
       refine wp_ret ?_
       refine ret1 rfl hd (ev_hit hN rfl) ⟨_, rfl, ?_⟩
       -- path 13F 14F 24F 34F 44F 50F
       rw [doV_a (show ¬ kd < 2 ∧ kd ≠ 2 ∧ kd ≠ 8 ∧ kd ≠ 9 ∧ kd ≠ 10 by omega), doM_a (show ¬ kd < 2 ∧ kd ≠ 2 ∧ kd ≠ 8 ∧ kd ≠ 9 ∧ kd ≠ 10 by omega)]
       exact ⟨hb, rfl, F53, hl53, hN53.mono (by omega)⟩

end Go.Proofs.Ytmhdbphpmgjpcaa
