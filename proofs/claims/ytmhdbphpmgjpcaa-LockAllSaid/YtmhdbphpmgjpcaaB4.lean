/- Plain facts on lists that are merged by picks. -/
import Derived.Lib.AppendZerosOnto
import Derived.Lib.Overlaps
import Derived.Laws.Externs
import Derived.Lib.Bytealg
import Derived.Lib.UnsafeStr
import Derived.Test.YtmhdbphpmgjpcaaB3
set_option linter.unusedVariables false
set_option linter.unusedSimpArgs false

namespace Go.Gx
abbrev LU := List UInt16
abbrev LbU := Value × LU
def DU : LbU := (.slice none 0 0, [])
def AtIs (X : List LU) (A : List Nat) (S : List LU) : Prop := A.length = X.length ∧ S.length = X.length ∧ ∀ k, S.getD k [] = (X.getD k []).drop (A.getD k 0)
theorem AtIs.start (X : List LU) : AtIs X (List.replicate X.length 0) X := ⟨by simp, rfl, fun k => by
  have : (List.replicate X.length 0).getD k 0 = 0 := by simp only [List.getD_eq_getElem?_getD, List.getElem?_replicate]; split <;> rfl
  rw [this]; rfl⟩
theorem getD_set_neM {α : Type} {l : List α} {i j : Nat} {x d : α} (h : i ≠ j) : (l.set i x).getD j d = l.getD j d := by simp [List.getD_eq_getElem?_getD, List.getElem?_set_ne h]
theorem getD_set_eq {α : Type} {l : List α} {i : Nat} {x d : α} (h : i < l.length) : (l.set i x).getD i d = x := by simp [List.getD_eq_getElem?_getD, h]
/-! sums of lengths -/
theorem AtIs.le {M : List LbU} {A : List Nat} {S : List LU} (h : AtIs (M.map Prod.snd) A S) : A.length = M.length ∧ S.length = M.length := ⟨by simpa using h.1, by simpa using h.2.1⟩
def AtLe (M : List LbU) (A : List Nat) : Prop := ∀ k, A.getD k 0 ≤ (M.getD k DU).2.length
theorem AtLe.start (M : List LbU) (n : Nat) : AtLe M (List.replicate n 0) := fun k => by
  have : (List.replicate n 0).getD k 0 = 0 := by simp only [List.getD_eq_getElem?_getD, List.getElem?_replicate]; split <;> rfl
  rw [this]; exact Nat.zero_le _
theorem AtLe.step {M : List LbU} {A : List Nat} (h : AtLe M A) {k : Nat} (hn : A.getD k 0 < (M.getD k DU).2.length) : AtLe M (A.set k (A.getD k 0 + 1)) := fun j => by
  by_cases hj : k = j
  · subst hj
    by_cases hk : k < A.length
    · rw [getD_set_eq hk]; omega
    · have := h k
      rw [List.set_eq_of_length_le (by omega)]; exact this
  · rw [getD_set_neM hj]; exact h j
/-! lists of numbers -/
def nv (n : Nat) : Value := .int .i64 (n : Int)
theorem flat_one {α : Type} (l : List α) (f : α → Value) : l.flatMap (fun x => [f x]) = l.map f := by induction l with | nil => rfl | cons a l ih => simp [ih]
end Go.Gx

namespace Go.Gx
end Go.Gx
namespace Go.Proofs.Ytmhdbphpmgjpcaa
open Go.Gx Go.RowKit
def doV (M : TM) (kd : Nat) (n : Int) (R : List (List UInt8)) (x : List UInt8) : Int :=
  if kd < 2 then enterE M n else if kd = 2 then moveE M n else if kd = 8 then leaveE M n else if kd = 9 then leaveE M n else if kd = 10 then (if (txAt M n).doomed = true then 1 else 0) else 100 * askE M n + askV M n R x
def doM (M : TM) (kd : Nat) (n : Int) (l : List UInt16) (s : Int) (R : List (List UInt8)) (x : List UInt8) : TM :=
  if kd < 2 then enterM M n l s else if kd = 2 then moveM M n l s else if kd = 8 then comM M n else if kd = 9 then mdel M n else if kd = 10 then M else askM M n R x
section
variable {M A B : TM} {i n9 t kd : Nat} {n s x9 : Int} {l aL : List UInt16} {T u : TX} {R : List (List UInt8)} {x : List UInt8}
theorem doV_0 (h : kd < 2) : doV M kd n R x = enterE M n := if_pos h
theorem doM_0 (h : kd < 2) : doM M kd n l s R x = enterM M n l s := if_pos h
theorem doM_2 (h : kd = 2) : doM M kd n l s R x = moveM M n l s := by subst h; rfl
theorem doM_8 (h : kd = 8) : doM M kd n l s R x = comM M n := by subst h; rfl
theorem doM_9 (h : kd = 9) : doM M kd n l s R x = mdel M n := by subst h; rfl
theorem doM_10 (h : kd = 10) : doM M kd n l s R x = M := by subst h; rfl
theorem doM_a (h : ¬ kd < 2 ∧ kd ≠ 2 ∧ kd ≠ 8 ∧ kd ≠ 9 ∧ kd ≠ 10) : doM M kd n l s R x = askM M n R x := by unfold doM; rw [if_neg h.1, if_neg h.2.1, if_neg h.2.2.1, if_neg h.2.2.2.1, if_neg h.2.2.2.2]
theorem kd_cases (kd : Nat) : kd < 2 ∨ kd = 2 ∨ kd = 8 ∨ kd = 9 ∨ kd = 10 ∨ (¬ kd < 2 ∧ kd ≠ 2 ∧ kd ≠ 8 ∧ kd ≠ 9 ∧ kd ≠ 10) := by omega
theorem MIn.do (h : MIn M i) (hn : (Lit.int .i64 n).wf = true) (hl : l.length ≤ 8) (hR : R.length ≤ 8) : MIn (doM M kd n l s R x) (i + 1) := by
  rcases kd_cases kd with q | q | q | q | q | q
  · rw [doM_0 q]; exact h.enter hn hl
  · rw [doM_2 q]; exact h.move hl
  · rw [doM_8 q]; exact h.com
  · rw [doM_9 q]; exact h.del
  · rw [doM_10 q]; exact h.mono (Nat.le_succ _)
  · rw [doM_a q]; exact h.ask hR
/-! by what each key has -/
theorem txAt_of (h : mget M n = some T) : txAt M n = T := by unfold txAt; rw [h]; rfl
theorem any_get (h : (M.map Prod.fst).Nodup) {p : Int → TX → Bool} : (M.any fun a => p a.1 (txAt M a.1)) = true ↔ ∃ y u, mget M y = some u ∧ p y u = true := by
  rw [List.any_eq_true]
  constructor
  · rintro ⟨a, ha, hp⟩
    have hg := mget_of_mem h (show (a.1, a.2) ∈ M from ha)
    exact ⟨a.1, a.2, hg, by rw [txAt_of hg] at hp; exact hp⟩
  · rintro ⟨y, u, hg, hp⟩
    exact ⟨_, mget_mem hg, by show p y (txAt M y) = true; rw [txAt_of hg]; exact hp⟩
def wayB (n : Int) (T : TX) (R : List (List UInt8)) (x : List UInt8) (y : Int) (u : TX) : Bool := (decide (y ≠ n) && decide (u.label = T.label)) && standB u R x T.label
def wayD (n : Int) (T : TX) (R : List (List UInt8)) (x : List UInt8) (y : Int) (u : TX) : Bool := (decide (y ≠ n) && decide (u.label = T.label)) && (standB u R x T.label && decide (u.stamp ≤ T.stamp))
theorem ans_eq : ansO M n T R x = if (M.any fun a => wayD n T R x a.1 (txAt M a.1)) = true then 3 else if (M.any fun a => wayB n T R x a.1 (txAt M a.1)) = true then 2 else 1 := rfl
theorem enter_get (h : (M.map Prod.fst).Nodup) : mget (enterM M n l s) x9 = if x9 = n ∧ mget M n = none then some (newT l s) else mget M x9 := by
  unfold enterM
  cases hg : mget M n with
  | none =>
    simp only [Option.isSome_none, Bool.false_eq_true, if_false, and_true]
    exact mget_mput h
  | some v => simp
theorem move_get (h : (M.map Prod.fst).Nodup) (hg : mget M n = some T) (hw : ¬ 0 < T.writes.length) : mget (moveM M n l s) x9 = if x9 = n then some (moveT T l s) else mget M x9 := by
  unfold moveM; rw [hg]; simp only []; rw [if_neg hw]; exact mget_mput h
theorem ask_get (h : (M.map Prod.fst).Nodup) (hg : mget M n = some T) : mget (askM M n R x) x9 = if x9 = n then some (askT T R x (ansO M n T R x)) else mget M x9 := by
  unfold askM; rw [hg]; exact mget_mput h
def dm1 (T u : TX) : TX := if (upQ T u.label && T.writes.any fun s => covB u.reads s T.label) = true then doomT u else u
theorem com_get (h : (M.map Prod.fst).Nodup) (hg : mget M n = some T) : mget (comM M n) x9 = if x9 = n then none else (mget M x9).map (dm1 T) := by
  unfold comM; rw [hg]; simp only []
  rw [mget_mdel (by rw [doomL_keys]; exact h)]
  by_cases hx : x9 = n
  · rw [if_pos hx, if_pos hx]
  · rw [if_neg hx, if_neg hx, mget_doom]
    cases hq : mget M x9 with
    | none => rfl
    | some u =>
      simp only [Option.map_some, Option.some.injEq]
      unfold dm1 hitB
      rw [txAt_of hq]
      have e : (othersL M n (upQ T)).contains x9 = upQ T u.label := by
        rw [Bool.eq_iff_iff, List.contains_iff_mem]
        unfold othersL
        rw [List.mem_filter, txAt_of hq, sortK_mem]
        exact ⟨fun q => by have := q.2; simp only [Bool.and_eq_true] at this; exact this.2, fun q => ⟨List.mem_map.2 ⟨_, mget_mem hq, rfl⟩, by simp only [Bool.and_eq_true, decide_eq_true_eq]; exact ⟨hx, q⟩⟩⟩
      rw [e]
/-! those below a label -/
def Up (aL : List UInt16) (A B : TM) : Prop := ∀ y u, mget B y = some u ↔ mget A y = some u ∧ flowsL u.label aL = true
theorem flows_trans {a b c : List UInt16} (h1 : flowsL a b = true) (h2 : flowsL b c = true) : flowsL a c = true := flows_iff.2 fun x hx => flows_iff.1 h2 x (flows_iff.1 h1 x hx)
theorem Up.miss (h : Up aL A B) (hg : mget A n = none) : mget B n = none := by
  cases hq : mget B n with
  | none => rfl
  | some u => have := ((h n u).1 hq).1; rw [hg] at this; cases this
theorem Up.out (h : Up aL A B) (hg : mget A n = some T) (hf : ¬ flowsL T.label aL = true) : mget B n = none := by
  cases hq : mget B n with
  | none => rfl
  | some u => obtain ⟨h1, h2⟩ := (h n u).1 hq; rw [hg] at h1; injection h1 with h1; subst h1; exact absurd h2 hf
theorem Up.in (h : Up aL A B) (hg : mget A n = some T) (hf : flowsL T.label aL = true) : mget B n = some T := (h n T).2 ⟨hg, hf⟩
theorem Up.set {A' B' : TM} {a' b' : Option TX} (h : Up aL A B) (hA : ∀ y, mget A' y = if y = n then a' else mget A y) (hB : ∀ y, mget B' y = if y = n then b' else mget B y) (hab : ∀ u, b' = some u ↔ a' = some u ∧ flowsL u.label aL = true) : Up aL A' B' := fun y u => by
  rw [hA, hB]
  by_cases hy : y = n
  · rw [if_pos hy, if_pos hy]; exact hab u
  · rw [if_neg hy, if_neg hy]; exact h y u
/-! the run -/
def UInv (aL : List UInt16) (A B : TM) (IN : List Bool) (NOW : List LbU) (n : Nat) : Prop :=
  IN.length = 16 ∧ NOW.length = 16 ∧ MIn A n ∧ MIn B n ∧ (∀ q : Nat, q < 16 → (mget A (q : Int)).isSome = IN.getD q false) ∧ (∀ (q : Nat) u, q < 16 → mget A (q : Int) = some u → u.label = (NOW.getD q DU).2) ∧ Up aL A B ∧ ∀ z ∈ NOW, z.2.length ≤ 8
variable {IN : List Bool} {NOW : List LbU} {o : LbU}
theorem UInv.start : UInv aL [] [] (List.replicate 16 false) (List.replicate 16 DU) 0 :=
  ⟨rfl, rfl, MIn.start, MIn.start, fun q hq => by
    have : (List.replicate 16 false).getD q false = false := (by decide : ∀ q, q < 16 → (List.replicate 16 false).getD q false = false) q hq
    rw [this]; rfl, fun _ _ _ h => (by cases h), fun _ _ => ⟨fun h => (by cases h), fun h => (by cases h.1)⟩, fun z hz => by rw [(List.mem_replicate.1 hz).2]; exact Nat.zero_le _⟩
theorem UInv.hit (h : UInv aL A B IN NOW n9) (ht : t < 16) (hI : IN.getD t false = true) : ∃ u, mget A (t : Int) = some u ∧ u.label = (NOW.getD t DU).2 := by
  have := h.2.2.2.2.1 t ht
  rw [hI] at this
  obtain ⟨u, hu⟩ := Option.isSome_iff_exists.1 this
  exact ⟨u, hu, h.2.2.2.2.2.1 t u ht hu⟩
theorem UInv.out (h : UInv aL A B IN NOW n9) (ht : t < 16) (hI : IN.getD t false = false) : mget A (t : Int) = none := by
  have := h.2.2.2.2.1 t ht
  rw [hI] at this
  cases hq : mget A (t : Int) with
  | none => rfl
  | some u => rw [hq] at this; cases this
theorem wft (ht : t < 16) : (Lit.int .i64 (t : Int)).wf = true := wf_i64 (by omega) (by omega)
theorem UInv.turn {A' B' : TM} {a' b' : Option TX} {IN' : List Bool} (h : UInv aL A B IN NOW n9) (ht : t < 16) (hA : ∀ y, mget A' y = if y = (t : Int) then a' else mget A y) (hB : ∀ y, mget B' y = if y = (t : Int) then b' else mget B y) (mA : MIn A' (n9 + 1)) (mB : MIn B' (n9 + 1))
    (hI : IN' = IN.set t a'.isSome) (hl : ∀ u, a' = some u → u.label = (NOW.getD t DU).2) (hab : ∀ u, b' = some u ↔ a' = some u ∧ flowsL u.label aL = true) : UInv aL A' B' IN' NOW (n9 + 1) := by
  obtain ⟨h1, h2, h3, h4, h5, h6, h7, h8⟩ := h
  refine ⟨by rw [hI, List.length_set]; exact h1, h2, mA, mB, fun q hq => ?_, fun q u hq hu => ?_, h7.set hA hB hab, h8⟩
  · rw [hA, hI, getD_set (by omega)]
    by_cases hqt : q = t
    · rw [if_pos (by rw [hqt]), if_pos hqt]
    · rw [if_neg (by omega), if_neg hqt]; exact h5 q hq
  · rw [hA] at hu
    by_cases hqt : q = t
    · rw [if_pos (by rw [hqt])] at hu; rw [hqt]; exact hl u hu
    · rw [if_neg (by omega)] at hu; exact h6 q u hq hu
theorem UInv.same (h : UInv aL A B IN NOW n9) : UInv aL A B IN NOW (n9 + 1) := ⟨h.1, h.2.1, h.2.2.1.mono (Nat.le_succ _), h.2.2.2.1.mono (Nat.le_succ _), h.2.2.2.2⟩
theorem UInv.mono {m : Nat} (h : UInv aL A B IN NOW n9) (hm : n9 ≤ m) : UInv aL A B IN NOW m := ⟨h.1, h.2.1, h.2.2.1.mono hm, h.2.2.2.1.mono hm, h.2.2.2.2⟩
theorem mdel_get (h : (M.map Prod.fst).Nodup) : mget (mdel M n) x9 = if x9 = n then none else mget M x9 := mget_mdel h
theorem UInv.new (h : UInv aL A B IN NOW n9) (ht : t < 16) (hI : IN.getD t false = false) (hlo : l = (NOW.getD t DU).2) (hk : kd < 2) (hl : l.length ≤ 8) :
    (flowsL l aL = true → doV B kd (t : Int) R x = doV A kd (t : Int) R x ∧ UInv aL (doM A kd (t : Int) l s R x) (doM B kd (t : Int) l s R x) (IN.set t true) NOW (n9 + 1)) ∧ (¬ flowsL l aL = true → UInv aL (doM A kd (t : Int) l s R x) B (IN.set t true) NOW (n9 + 1)) := by
  have hA := h.out ht hI
  have hB := h.2.2.2.2.2.2.1.miss hA
  have nA := h.2.2.1.2.1; have nB := h.2.2.2.1.2.1
  have gA : ∀ y, mget (enterM A (t : Int) l s) y = if y = (t : Int) then some (newT l s) else mget A y := fun y => by
    rw [enter_get nA]
    by_cases hy : y = (t : Int)
    · rw [if_pos ⟨hy, hA⟩, if_pos hy]
    · rw [if_neg fun q => hy q.1, if_neg hy]
  have gB : ∀ y, mget (enterM B (t : Int) l s) y = if y = (t : Int) then some (newT l s) else mget B y := fun y => by
    rw [enter_get nB]
    by_cases hy : y = (t : Int)
    · rw [if_pos ⟨hy, hB⟩, if_pos hy]
    · rw [if_neg fun q => hy q.1, if_neg hy]
  rw [doM_0 hk, doM_0 hk, doV_0 hk, doV_0 hk]
  refine ⟨fun hf => ⟨by unfold enterE; rw [hA, hB], h.turn (a' := some (newT l s)) (b' := some (newT l s)) ht gA gB (h.2.2.1.enter (wft ht) hl) (h.2.2.2.1.enter (wft ht) hl) rfl (fun u hu => ?_) (fun u => ⟨fun q => ⟨q, ?_⟩, fun q => q.1⟩)⟩, fun hf => h.turn (a' := some (newT l s)) (b' := none) ht gA (fun y => ?_) (h.2.2.1.enter (wft ht) hl) (h.2.2.2.1.mono (Nat.le_succ _)) rfl (fun u hu => ?_) (fun u => ⟨fun q => (by cases q), fun q => absurd q.2 ?_⟩)⟩
  · injection hu with hu; rw [← hu]; exact hlo
  · injection q with q; rw [← q]; exact hf
  · by_cases hy : y = (t : Int)
    · rw [if_pos hy, hy, hB]
    · rw [if_neg hy]
  · injection hu with hu; rw [← hu]; exact hlo
  · have := q.1; injection this with this; rw [← this]; exact hf
theorem UInv.mv (h : UInv aL A B IN NOW n9) (ht : t < 16) (ho : o.2.length ≤ 8) :
    (IN.getD t false = false → moveM A (t : Int) o.2 s = A) ∧
    (IN.getD t false = true → flowsL (NOW.getD t DU).2 o.2 = true →
      (moveE A (t : Int) ≠ 0 → moveM A (t : Int) o.2 s = A) ∧
      (¬ flowsL (NOW.getD t DU).2 aL = true → moveE A (t : Int) = 0 → UInv aL (moveM A (t : Int) o.2 s) B IN (NOW.set t o) (n9 + 1) ∧ ¬ flowsL o.2 aL = true) ∧
      (flowsL (NOW.getD t DU).2 aL = true → moveE B (t : Int) = moveE A (t : Int) ∧ (moveE A (t : Int) ≠ 0 → moveM B (t : Int) o.2 s = B) ∧
        (moveE A (t : Int) = 0 → (flowsL o.2 aL = true → UInv aL (moveM A (t : Int) o.2 s) (moveM B (t : Int) o.2 s) IN (NOW.set t o) (n9 + 1)) ∧ (¬ flowsL o.2 aL = true → UInv aL (moveM A (t : Int) o.2 s) (mdel (moveM B (t : Int) o.2 s) (t : Int)) IN (NOW.set t o) (n9 + 2))))) := by
  have nA := h.2.2.1.2.1; have nB := h.2.2.2.1.2.1
  refine ⟨fun hI => by unfold moveM; rw [h.out ht hI], fun hI hfl => ?_⟩
  obtain ⟨u, hu, hlu⟩ := h.hit ht hI
  have hE : moveE A (t : Int) = if 0 < u.writes.length then 16 else 0 := by unfold moveE; rw [hu]
  have e1 : moveE A (t : Int) ≠ 0 → moveM A (t : Int) o.2 s = A := fun q => by
    have hw : 0 < u.writes.length := Decidable.byContradiction fun hn => q (by rw [hE, if_neg hn])
    unfold moveM; rw [hu]; simp only []; rw [if_pos hw]
  have hw0 : moveE A (t : Int) = 0 → ¬ 0 < u.writes.length := fun q hw => by rw [hE, if_pos hw] at q; cases q
  -- the walk of the invariant when t's label turns in both
  have tn : ∀ {A' B' : TM} {b' : Option TX} {m : Nat}, (∀ y, mget A' y = if y = (t : Int) then some (moveT u o.2 s) else mget A y) → (∀ y, mget B' y = if y = (t : Int) then b' else mget B y) → MIn A' m → MIn B' m → (∀ w, b' = some w ↔ some (moveT u o.2 s) = some w ∧ flowsL w.label aL = true) → UInv aL A' B' IN (NOW.set t o) m := fun {A' B' b' m} gA gB mA mB hab => by
    obtain ⟨h1, h2, h3, h4, h5, h6, h7, h8⟩ := id h
    refine ⟨h1, by rw [List.length_set]; exact h2, mA, mB, fun q hq => ?_, fun q w hq hw => ?_, h7.set gA gB hab, fun z hz => ?_⟩
    · rw [gA]
      by_cases hqt : q = t
      · rw [if_pos (by rw [hqt]), hqt, hI]; rfl
      · rw [if_neg (by omega)]; exact h5 q hq
    · rw [gA] at hw
      rw [getD_set (by omega)]
      by_cases hqt : q = t
      · rw [if_pos (by rw [hqt])] at hw; rw [if_pos hqt]; injection hw with hw; rw [← hw]; rfl
      · rw [if_neg (by omega)] at hw; rw [if_neg hqt]; exact h6 q w hq hw
    · rcases List.mem_or_eq_of_mem_set hz with hz | rfl
      · exact h8 z hz
      · exact ho
  refine ⟨e1, fun hs q => ?_, fun hf => ?_⟩
  · have hnf : ¬ flowsL o.2 aL = true := fun q2 => hs (flows_trans hfl q2)
    have hBn : mget B (t : Int) = none := h.2.2.2.2.2.2.1.out hu (by rw [hlu]; exact hs)
    refine ⟨tn (b' := none) (fun y => move_get nA hu (hw0 q)) (fun y => ?_) (h.2.2.1.move ho) (h.2.2.2.1.mono (Nat.le_succ _)) (fun w => ⟨fun q => (by cases q), fun q => absurd q.2 ?_⟩), hnf⟩
    · by_cases hy : y = (t : Int)
      · rw [if_pos hy, hy, hBn]
      · rw [if_neg hy]
    · have := q.1; injection this with this; rw [← this]; exact hnf
  · have hv : mget B (t : Int) = some u := h.2.2.2.2.2.2.1.in hu (by rw [hlu]; exact hf)
    refine ⟨by unfold moveE; rw [hu, hv], fun q => ?_, fun q => ⟨fun hf2 => ?_, fun hf2 => ?_⟩⟩
    · have hw : 0 < u.writes.length := Decidable.byContradiction fun hn => q (by rw [hE, if_neg hn])
      unfold moveM; rw [hv]; simp only []; rw [if_pos hw]
    · exact tn (b' := some (moveT u o.2 s)) (fun y => move_get nA hu (hw0 q)) (fun y => move_get nB hv (hw0 q)) (h.2.2.1.move ho) (h.2.2.2.1.move ho) (fun w => ⟨fun q => ⟨q, by injection q with q; rw [← q]; exact hf2⟩, fun q => q.1⟩)
    · have nB2 := (h.2.2.2.1.move (n := (t : Int)) (l := o.2) (s := s) ho).2.1
      refine tn (b' := none) (fun y => move_get nA hu (hw0 q)) (fun y => ?_) ((h.2.2.1.move ho).mono (Nat.le_succ _)) (h.2.2.2.1.move ho).del (fun w => ⟨fun q => (by cases q), fun q => absurd q.2 ?_⟩)
      · rw [mdel_get nB2, move_get nB hv (hw0 q)]
        by_cases hy : y = (t : Int)
        · rw [if_pos hy, if_pos hy]
        · rw [if_neg hy, if_neg hy, if_neg hy]
      · have := q.1; injection this with this; rw [← this]; exact hf2
end
end Go.Proofs.Ytmhdbphpmgjpcaa

namespace Go.Gx
open Go.RowKit
section
variable {P : Program} {Q : Exit → Act → World → Prop} {a : Act} {w : World} {l : List (Nat × Value)} {ops : Array Oper} {rest : List Oper}
variable {d ty xt t : Nat} {p : String} {af : Array Edge} {x y : Operand} {k : IntKind} {b c : Nat}
end
end Go.Gx

namespace Go.Gx
open Go.RowKit
section
variable {P : Program} {ol : List Oper} {Q Q1 : Exit → Act → World → Prop}
end
end Go.Gx

namespace Go.Proofs.Ytmhdbphpmgjpcaa
open Go.Gx Go.RowKit
attribute [local irreducible] wpList wpStill Code.wp Calls

theorem light_ret (o : OpT) (w : World) (hlm : (opL o).length ≤ 9223372036854775807) (hL0 : RdC w 0 w.heap.size 1 (opLv o) (opL o).length ((opL o).map u16v)) (hR0 : RdC w 0 w.heap.size 1 (opRv o) (opR o).length ((opR o).map sv)) : Ret Try.prog 56 #[(.agg #[(.int .i64 (opK o)), (.int .i64 (opN o)), (opLv o), (.int .u64 ((opS o).toNat : Int)), (opRv o), (.string (bs (opW o)))])] w (fun v' w' => Below w.heap.size w w' ∧ v' = .bool (lightB o)) := by
 have hb := Below.refl w.heap.size w
 refine enter (N := 34) Try.func56 rfl rfl (by simp) fun a hN hd hA => ?_
 have c : a.tmps.getD 0 undef = (.agg #[(.int .i64 (opK o)), (.int .i64 (opN o)), (opLv o), (.int .u64 ((opS o).toNat : Int)), (opRv o), (.string (bs (opW o)))]) := hA 0 (by simp)
 clear hA
 refine zF fun _ a => zH (op_box (cs := [(.int .i64 (opK o)), (.int .i64 (opN o)), (opLv o), (.int .u64 ((opS o).toNat : Int)), (opRv o), (.string (bs (opW o)))]) (zC hN rfl c) rfl ?_)
 intro e g l k c f
 obtain ⟨hb, _⟩ := yE hb f
 have hL0 := hL0.keep0 f
 refine zD rfl (zB ?_)
 refine a _ _ (zF fun _ a => zF fun _ k => zH (zM fld103_2 (zA hN rfl) (zN one54 (zA hN rfl) (c.cell rfl) (zj ok33 (refMay_ret (opL o) _ _ (by first | assumption | omega | (simp only [List.length_append, List.length_cons, List.length_nil, List.length_drop, List.length_take]; omega) | (dsimp only; omega) | decide | (simp [keyV, be8_len]; done)) (show RdC e 0 e.heap.size 1 (opLv o) (opL o).length ((opL o).map u16v) from by have hh : RdC e 0 e.heap.size 1 _ _ _ := (hL0.mono (L' := 0) (B' := e.heap.size) (Nat.zero_le _) zx); first | exact hh | exact hh.cast (by first | omega | (simp; try omega)) (by first | rfl | simp [u16v]))) ⟨(zA hN rfl), trivial⟩ ?_))))
 rintro _ l ⟨e, rfl⟩
 have e := zQ e
 obtain ⟨hb, _⟩ := yE hb e
 have hL0 := hL0.keep0 e
 have hR0 := (hR0.keep0 f).keep0 e
 have c := c.keep0 e
 rcases Bool.eq_false_or_eq_true ((mayL (opL o))) with e | e
 ·
  rw [e]
  refine op_not (zA hN rfl) (zG (zA hN rfl) (zS (j := 4) (dj := 8) (b := false) rfl rfl rfl (zA hN rfl) (zM fld103_4 (zA hN rfl) (zS (j := 4) (dj := 8) (b := false) rfl rfl rfl (zA hN rfl) (zN one26 (zA hN rfl) (c.cell rfl) (zS (j := 4) (dj := 8) (b := false) rfl rfl rfl (zA hN rfl) (op_len_rd Try.underlying26 (zA hN rfl) hR0 (zS (j := 4) (dj := 8) (b := false) rfl rfl rfl (zA hN rfl) (op_gtr (zA hN rfl) rfl (fun f => ?_) (fun f => ?_))))))))))
  ·
   refine zd (zA hN rfl) (zA hN rfl) (zG (zA hN rfl) (zR (j := 10) (dj := 14) (b := false) rfl rfl rfl (zA hN rfl) rfl rfl (zR (j := 10) (dj := 14) (b := false) rfl rfl rfl (zA hN rfl) rfl rfl ?_)))
   refine zR (j := 10) (dj := 14) (b := false) rfl rfl rfl (zA hN rfl) rfl rfl (zR (j := 10) (dj := 14) (b := false) rfl rfl rfl (zA hN rfl) rfl rfl (zc (zA hN rfl) rfl (zB (k _ _ (wp_cond_true (zA hN rfl) (zF fun _ k => zH (zD rfl (zB (k _ _ (wp_ret (zO ( (ret1 rfl hd (zA hN rfl) ⟨_, rfl, ?_⟩)))))))))))))
   exact ⟨hb, congrArg Value.bool (Eq.symm (lightB_f (fun h => by have := h.2.1; omega)))⟩
  refine zd (zA hN rfl) (zA hN rfl) (zG (zA hN rfl) (zS (j := 10) (dj := 14) (b := false) rfl rfl rfl (zA hN rfl) (zM fld103_5 (zA hN rfl) (zS (j := 10) (dj := 14) (b := false) rfl rfl rfl (zA hN rfl) (zN one9 (zA hN rfl) (c.cell rfl) (zS (j := 10) (dj := 14) (b := false) rfl rfl rfl (zA hN rfl) (op_len_str Try.underlying9 (zA hN rfl) (zS (j := 10) (dj := 14) (b := false) rfl rfl rfl (zA hN rfl) (op_gtr (zA hN rfl) rfl (fun f => ?_) (fun f => ?_))))))))))
  ·
   refine zd (zA hN rfl) (zA hN rfl) (zB (k _ _ (wp_cond_true (zA hN rfl) (zF fun _ k => zH (zD rfl (zB (k _ _ (wp_ret (zO ( (ret1 rfl hd (zA hN rfl) ⟨_, rfl, ?_⟩)))))))))))
   exact ⟨hb, congrArg Value.bool (Eq.symm (lightB_f (fun h => by have := h.2.2.1; omega)))⟩
  refine zd (zA hN rfl) (zA hN rfl) (zB (k _ _ (wp_cond_false (zA hN rfl) (wp_skip (a _ _ (zF fun _ a => zF fun _ k => zH (zD rfl (zB (k _ _ (wp_block (loop_m (fun mz_ az_ w' => ∃ (i : Nat), mz_ = (opR o).length - i ∧ (Sl az_ 1 (ptr g 0)) ∧ (Sl az_ 3 (.int .i64 ((i : Nat) : Int))) ∧ (i ≤ (opR o).length) ∧ (∀ j, j < i → ((opR o).getD j []).length ≤ 20) ∧ (Below w.heap.size w w') ∧ (l.heap.size ≤ w'.heap.size) ∧ (RdC w' 0 w.heap.size 1 (opLv o) (opL o).length ((opL o).map u16v)) ∧ (RdC w' 0 w.heap.size 1 (opRv o) (opR o).length ((opR o).map sv)) ∧ (Bx w' g 103 [(.int .i64 (opK o)), (.int .i64 (opN o)), (opLv o), (.int .u64 ((opS o).toNat : Int)), (opRv o), (.string (bs (opW o)))])) _ hN hd ⟨0, rfl, (zU hN rfl), (zU hN rfl), (Nat.zero_le _), (fun _ h => absurd h (Nat.not_lt_zero _)), hb, (Nat.le_refl _), hL0, hR0, c⟩ ?_)))))))))))
  rintro _ p q f g ⟨i, rfl, l, m, hi, hj, hb, n, hL0, hR0, c⟩
  have := hb.size
  refine zF fun _ k => zF fun _ n => zH (zG (zC f rfl m) (zM fld103_4 (zC f rfl l) (zN one26 (zA f rfl) (c.cell rfl) (op_len_rd Try.underlying26 (zA f rfl) hR0 (op_lss (zA f rfl) (zA f rfl) (fun p => ?_) (fun p => ?_))))))
  ·
   refine zB (n _ _ (wp_cond_true (zA f rfl) (wp_skip (k _ _ (zF fun _ k => wp_block (zF fun _ n => zH (zM fld103_4 (zC f rfl l) (zN one26 (zA f rfl) (c.cell rfl) (zG (zC f rfl m) (zh slt26 (zA f rfl) hR0 (zA f rfl) zx zx ?_))))))))))
   intro u q s t p
   refine zN (v := (Value.string (bs ((opR o).getD i [])))) one9 (zA f rfl) (by have := p 0 (.string (bs ((opR o).getD i []))) zz (el_sv (i := i) zx zx); simpa using this) (op_len_str Try.underlying9 (zA f rfl) (op_gtr (zA f rfl) rfl (fun q => ?_) (fun q => ?_)))
   ·
    refine zB (n _ _ (wp_cond_true (zA f rfl) (zF fun _ n => zH (zD rfl (zB (n _ _ (wp_ret (zb (zO (zO (zb (zO ( (ret1 rfl g (zA f rfl) ⟨_, rfl, ?_⟩))))))))))))))
    exact ⟨hb, congrArg Value.bool (Eq.symm (lightB_f (fun h => by have := h.2.2.2 _ (getD_mem (d := []) (show i < (opR o).length by omega)); omega)))⟩
   refine zB (n _ _ (wp_cond_false (zA f rfl) (wp_skip (k _ _ (zH (zG (zC f rfl m) (op_add (zA f rfl) rfl (add64 zx) (zD (zA f rfl) (zB ?_)))))))))
   -- round 6T 12F 18F 24T 33F
   exact zg _ f g ⟨(i + 1), rfl, (zL f rfl l), (zU f rfl).trans (congrArg (Value.int .i64) zx), zx, (le_upto hj zx), hb, zx, hL0, hR0, c⟩ zx
  refine zB (n _ _ (wp_cond_false (zA f rfl) (wp_exit (then_exit (then_exit (blk_hit (a _ _ (zF fun _ a => zH (zD rfl (zB (a _ _ (wp_ret (ret1 rfl g (zA f rfl) ⟨_, rfl, ?_⟩)))))))))))))
  exact ⟨hb, congrArg Value.bool (Eq.symm (lightB_t ⟨e, by omega, by omega, fun r hr => by obtain ⟨j, a, rfl⟩ := mem_getD (d := []) hr; exact hj j zx⟩))⟩
 rw [e]
 refine op_not (zA hN rfl) (zG (zA hN rfl) (zR (j := 4) (dj := 8) (b := false) rfl rfl rfl (zA hN rfl) rfl rfl (zR (j := 4) (dj := 8) (b := false) rfl rfl rfl (zA hN rfl) rfl rfl (zR (j := 4) (dj := 8) (b := false) rfl rfl rfl (zA hN rfl) rfl rfl (zR (j := 4) (dj := 8) (b := false) rfl rfl rfl (zA hN rfl) rfl rfl (zc (zA hN rfl) rfl (zG (zA hN rfl) (zR (j := 10) (dj := 14) (b := false) rfl rfl rfl (zA hN rfl) rfl rfl (zR (j := 10) (dj := 14) (b := false) rfl rfl rfl (zA hN rfl) rfl rfl ?_)))))))))
 refine zR (j := 10) (dj := 14) (b := false) rfl rfl rfl (zA hN rfl) rfl rfl (zR (j := 10) (dj := 14) (b := false) rfl rfl rfl (zA hN rfl) rfl rfl (zc (zA hN rfl) rfl (zB (k _ _ (wp_cond_true (zA hN rfl) (zF fun _ k => zH (zD rfl (zB (k _ _ (wp_ret (zO ( (ret1 rfl hd (zA hN rfl) ⟨_, rfl, ?_⟩)))))))))))))
 exact ⟨hb, congrArg Value.bool (Eq.symm (lightB_f (fun h => by rw [h.1] at e; cases e)))⟩

end Go.Proofs.Ytmhdbphpmgjpcaa

namespace Go.Proofs.Ytmhdbphpmgjpcaa
open Go.Gx
structure TEq (t u : TX) : Prop where
  label : t.label = u.label
  stamp : t.stamp = u.stamp
  writes : t.writes = u.writes
  doomed : t.doomed = u.doomed
  reads : ∀ a, a ∈ t.reads ↔ a ∈ u.reads
def OEq : Option TX → Option TX → Prop
  | none, none => True
  | some t, some u => TEq t u
  | _, _ => False
structure Rel (M L : TM) : Prop where
  nodup : (M.map Prod.fst).Nodup
  up : L.Pairwise (fun a b => a.1 < b.1)
  eq : ∀ y, OEq (mget M y) (mget L y)
section
variable {M L : TM} {n s : Int} {j i : Nat} {l : List UInt16} {T U : TX} {x : List UInt8} {Rs : List (List UInt8)}
theorem TEq.refl (t : TX) : TEq t t := ⟨rfl, rfl, rfl, rfl, fun _ => Iff.rfl⟩
theorem upN (h : L.Pairwise (fun a b => a.1 < b.1)) : (L.map Prod.fst).Nodup := by
  rw [List.Nodup, List.pairwise_map]; exact h.imp fun q e => by omega
theorem Rel.start : Rel [] [] := ⟨List.nodup_nil, .nil, fun _ => trivial⟩
theorem Rel.miss (h : Rel M L) (hg : mget L n = none) : mget M n = none := by
  have := h.eq n; rw [hg] at this
  cases hm : mget M n with
  | none => rfl
  | some t => rw [hm] at this; exact this.elim
theorem Rel.hit (h : Rel M L) (hg : mget L n = some U) : ∃ t, mget M n = some t ∧ TEq t U := by
  have := h.eq n; rw [hg] at this
  cases hm : mget M n with
  | none => rw [hm] at this; exact this.elim
  | some t => rw [hm] at this; exact ⟨t, rfl, this⟩
theorem Rel.perm {M2 : TM} (h : Rel M L) (hp : M2.Perm M) : Rel M2 L :=
  ⟨(hp.map Prod.fst).nodup_iff.2 h.nodup, h.up, fun y => by
    have e : mget M2 y = mget M y := by
      have hd2 := (hp.map Prod.fst).nodup_iff.2 h.nodup
      cases hq : mget M y with
      | some v => exact (mget_eq hd2).2 (hp.mem_iff.2 ((mget_eq h.nodup).1 hq))
      | none => rw [mget_none] at hq ⊢; exact fun q => hq ((hp.map Prod.fst).mem_iff.1 q)
    rw [e]; exact h.eq y⟩
structure PosR (L : TM) (n : Int) (j : Nat) : Prop where
  le : j ≤ L.length
  lo : ∀ q, q < j → (L.getD q default).1 < n
  hi : j < L.length → n ≤ (L.getD j default).1
def insR (L : TM) (j : Nat) (a : Int × TX) : TM := L.take j ++ [a] ++ L.drop j
def cutR (L : TM) (j : Nat) : TM := L.take j ++ L.drop (j + 1)
theorem at_memR (h : i < L.length) : L.getD i default ∈ L := getD_mem h
theorem mget_atR (hu : L.Pairwise (fun a b => a.1 < b.1)) (h : i < L.length) : mget L (L.getD i default).1 = some (L.getD i default).2 := mget_of_mem (upN hu) (at_memR h)
theorem missR (hg : mget L n = none) (h : i < L.length) : (L.getD i default).1 ≠ n := fun e => mget_none.1 hg (by rw [← e]; exact List.mem_map.2 ⟨_, at_memR h, rfl⟩)
theorem missR' (h : ∀ q, q < L.length → (L.getD q default).1 ≠ n) : mget L n = none := mget_none.2 fun hm => by
  obtain ⟨a, ha, e⟩ := List.mem_map.1 hm
  obtain ⟨q, hq, e2⟩ := List.getElem_of_mem ha
  have : L.getD q default = a := by simp [List.getD_eq_getElem?_getD, hq, e2]
  exact h q hq (by rw [this]; exact e)
theorem insR_up (hu : L.Pairwise (fun a b => a.1 < b.1)) (hp : PosR L n j) (hg : mget L n = none) : (insR L j (n, T)).Pairwise (fun a b => a.1 < b.1) := by
  have hgt : ∀ a ∈ L.drop j, n < a.1 := fun a ha => by
    obtain ⟨q, hq, e⟩ := List.getElem_of_mem ha
    rw [List.length_drop] at hq
    rw [List.getElem_drop] at e
    have hj : j < L.length := by omega
    have h1 := hp.hi hj
    have h2 := missR hg hj
    have h3 : L.getD (j + q) default = a := by simp [List.getD_eq_getElem?_getD, show j + q < L.length by omega, e]
    by_cases hq0 : q = 0
    · subst hq0; rw [← h3]; simp at h1 h2 ⊢; omega
    · have := List.pairwise_iff_getElem.1 hu j (j + q) hj (by omega) (by omega)
      have e1 : L.getD j default = L[j] := by simp [List.getD_eq_getElem?_getD, hj]
      rw [e1] at h1 h2
      rw [e] at this; omega
  have hlt : ∀ a ∈ L.take j, a.1 < n := fun a ha => by
    obtain ⟨q, hq, e⟩ := List.getElem_of_mem ha
    rw [List.length_take] at hq
    rw [List.getElem_take] at e
    have := hp.lo q (by omega)
    have h3 : L.getD q default = a := by simp [List.getD_eq_getElem?_getD, show q < L.length by omega, e]
    rw [h3] at this; exact this
  unfold insR
  rw [List.append_assoc, List.pairwise_append, List.pairwise_append]
  refine ⟨hu.sublist (List.take_sublist _ _), ⟨List.pairwise_singleton _ _, hu.sublist (List.drop_sublist _ _), fun a ha b hb => ?_⟩, fun a ha b hb => ?_⟩
  · rw [List.mem_singleton] at ha; subst ha; exact hgt b hb
  · rcases List.mem_append.1 hb with q | q
    · rw [List.mem_singleton] at q; subst q; exact hlt a ha
    · have := hlt a ha; have := hgt b q; omega
theorem insR_get (hu : L.Pairwise (fun a b => a.1 < b.1)) (hp : PosR L n j) (hg : mget L n = none) (y : Int) : mget (insR L j (n, T)) y = if y = n then some T else mget L y := by
  have hu2 := insR_up (T := T) hu hp hg
  have hN := upN hu2
  have hmem : ∀ a, a ∈ insR L j (n, T) ↔ a = (n, T) ∨ a ∈ L := fun a => by
    have e : L = L.take j ++ L.drop j := (List.take_append_drop j L).symm
    unfold insR
    rw [List.mem_append, List.mem_append, List.mem_singleton]
    constructor
    · rintro ((q | q) | q)
      · exact .inr (List.mem_of_mem_take q)
      · exact .inl q
      · exact .inr (List.mem_of_mem_drop q)
    · rintro (q | q)
      · exact .inl (.inr q)
      · rw [e] at q
        rcases List.mem_append.1 q with q | q
        · exact .inl (.inl q)
        · exact .inr q
  by_cases hy : y = n
  · subst hy; rw [if_pos rfl]; exact mget_of_mem hN ((hmem _).2 (.inl rfl))
  · rw [if_neg hy]
    cases hq : mget L y with
    | some v => exact mget_of_mem hN ((hmem _).2 (.inr (mget_mem hq)))
    | none =>
      refine mget_none.2 fun hm => ?_
      obtain ⟨a, ha, e⟩ := List.mem_map.1 hm
      rcases (hmem a).1 ha with q | q
      · subst q; exact hy e.symm
      · exact mget_none.1 hq (List.mem_map.2 ⟨a, q, e⟩)
theorem cutR_eq : cutR L j = L.eraseIdx j := (List.eraseIdx_eq_take_drop_succ ..).symm
theorem ixR (hu : L.Pairwise (fun a b => a.1 < b.1)) (hi : i < L.length) (hj : j < L.length) (e : (L.getD i default).1 = (L.getD j default).1) : i = j := by
  rcases Nat.lt_trichotomy i j with q | q | q
  · have := List.pairwise_iff_getElem.1 hu i j hi hj q
    simp [List.getD_eq_getElem?_getD, hi, hj] at e; omega
  · exact q
  · have := List.pairwise_iff_getElem.1 hu j i hj hi q
    simp [List.getD_eq_getElem?_getD, hi, hj] at e; omega
theorem cutR_up (hu : L.Pairwise (fun a b => a.1 < b.1)) : (cutR L j).Pairwise (fun a b => a.1 < b.1) := by rw [cutR_eq]; exact hu.sublist (List.eraseIdx_sublist _ _)
theorem cutR_get (hu : L.Pairwise (fun a b => a.1 < b.1)) (hj : j < L.length) (hn : (L.getD j default).1 = n) (y : Int) : mget (cutR L j) y = if y = n then none else mget L y := by
  have hN := upN (cutR_up (j := j) hu)
  have hmem : ∀ a, a ∈ cutR L j ↔ a ∈ L ∧ a.1 ≠ n := fun a => by
    rw [cutR_eq]
    constructor
    · intro q
      refine ⟨(List.eraseIdx_sublist _ _).subset q, fun e => ?_⟩
      obtain ⟨i, hi, e2⟩ := List.mem_iff_getElem.1 q
      rw [List.getElem_eraseIdx] at e2
      rw [List.length_eraseIdx, if_pos hj] at hi
      split at e2
      · have h3 : L.getD i default = a := by simp [List.getD_eq_getElem?_getD, show i < L.length by omega, e2]
        have := ixR hu (show i < L.length by omega) hj (by rw [h3, hn, e]); omega
      · have h3 : L.getD (i + 1) default = a := by simp [List.getD_eq_getElem?_getD, show i + 1 < L.length by omega, e2]
        have := ixR hu (show i + 1 < L.length by omega) hj (by rw [h3, hn, e]); omega
    · rintro ⟨q, e⟩
      obtain ⟨i, hi, e2⟩ := List.mem_iff_getElem.1 q
      have hij : i ≠ j := fun c => e (by subst c; rw [← hn]; simp [List.getD_eq_getElem?_getD, hi, e2])
      refine List.mem_iff_getElem.2 ?_
      by_cases c : i < j
      · exact ⟨i, by rw [List.length_eraseIdx, if_pos hj]; omega, by rw [List.getElem_eraseIdx]; simp [c, e2]⟩
      · refine ⟨i - 1, by rw [List.length_eraseIdx, if_pos hj]; omega, ?_⟩
        rw [List.getElem_eraseIdx]
        have c2 : ¬ i - 1 < j := by omega
        simp only [c2, dite_false]
        have : i - 1 + 1 = i := by omega
        simp only [this, e2]
  by_cases hy : y = n
  · subst hy; rw [if_pos rfl]
    exact mget_none.2 fun hm => by
      obtain ⟨a, ha, e⟩ := List.mem_map.1 hm
      exact ((hmem a).1 ha).2 e
  · rw [if_neg hy]
    cases hq : mget L y with
    | some v => exact mget_of_mem hN ((hmem _).2 ⟨mget_mem hq, hy⟩)
    | none =>
      refine mget_none.2 fun hm => ?_
      obtain ⟨a, ha, e⟩ := List.mem_map.1 hm
      exact mget_none.1 hq (List.mem_map.2 ⟨a, ((hmem a).1 ha).1, e⟩)
theorem setR_up (hu : L.Pairwise (fun a b => a.1 < b.1)) (hj : j < L.length) (hn : (L.getD j default).1 = n) : (L.set j (n, T)).Pairwise (fun a b => a.1 < b.1) := by
  have e : ∀ i, i < L.length → ((L.set j (n, T)).getD i default).1 = (L.getD i default).1 := fun i hi => by
    rw [getD_set hj]; split
    · rename_i q; subst q; exact hn.symm
    · rfl
  refine List.pairwise_iff_getElem.2 fun a b ha hb hab => ?_
  rw [List.length_set] at ha hb
  have h1 := e a ha; have h2 := e b hb
  have h3 := List.pairwise_iff_getElem.1 hu a b ha hb hab
  simp only [List.getD_eq_getElem?_getD, List.getElem?_eq_getElem ha, List.getElem?_eq_getElem hb, List.getElem?_eq_getElem (show a < (L.set j (n, T)).length by simpa using ha), List.getElem?_eq_getElem (show b < (L.set j (n, T)).length by simpa using hb), Option.getD_some] at h1 h2
  omega
theorem setR_get (hu : L.Pairwise (fun a b => a.1 < b.1)) (hj : j < L.length) (hn : (L.getD j default).1 = n) (y : Int) : mget (L.set j (n, T)) y = if y = n then some T else mget L y := by
  have hN := upN (setR_up (T := T) hu hj hn)
  by_cases hy : y = n
  · subst hy; rw [if_pos rfl]
    exact mget_of_mem hN (List.mem_iff_getElem.2 ⟨j, by simpa using hj, by simp⟩)
  · rw [if_neg hy]
    cases hq : mget L y with
    | some v =>
      obtain ⟨i, hi, e⟩ := List.mem_iff_getElem.1 (mget_mem hq)
      have hij : j ≠ i := fun c => hy (by subst c; rw [← hn]; simp [List.getD_eq_getElem?_getD, hi, e])
      exact mget_of_mem hN (List.mem_iff_getElem.2 ⟨i, by simpa using hi, by rw [List.getElem_set_ne hij]; exact e⟩)
    | none =>
      refine mget_none.2 fun hm => ?_
      obtain ⟨a, ha, e⟩ := List.mem_map.1 hm
      rcases List.mem_or_eq_of_mem_set ha with q | q
      · exact mget_none.1 hq (List.mem_map.2 ⟨a, q, e⟩)
      · subst q; exact hy e.symm
/-! operations -/
theorem Rel.enter_old (h : Rel M L) (hg : mget L n = some U) : enterE M n = 18 ∧ Rel (enterM M n l s) L := by
  obtain ⟨t, ht, _⟩ := h.hit hg
  unfold enterE enterM; rw [ht]; exact ⟨rfl, h⟩
theorem Rel.enter_new (h : Rel M L) (hg : mget L n = none) (hp : PosR L n j) : enterE M n = 0 ∧ Rel (enterM M n l s) (insR L j (n, newT l s)) := by
  have hm := h.miss hg
  refine ⟨by unfold enterE; rw [hm]; rfl, ?_, insR_up h.up hp hg, fun y => ?_⟩
  · unfold enterM; rw [hm]; exact nodup_mput h.nodup
  · rw [enter_get h.nodup, insR_get h.up hp hg]
    by_cases hy : y = n
    · rw [if_pos ⟨hy, hm⟩, if_pos hy]; exact TEq.refl _
    · rw [if_neg (fun q => hy q.1), if_neg hy]; exact h.eq y
theorem Rel.move_none (h : Rel M L) (hg : mget L n = none) : moveE M n = 18 ∧ Rel (moveM M n l s) L := by
  have hm := h.miss hg; unfold moveE moveM; rw [hm]; exact ⟨rfl, h⟩
theorem Rel.move_wrote (h : Rel M L) (hg : mget L n = some U) (hw : 0 < U.writes.length) : moveE M n = 16 ∧ Rel (moveM M n l s) L := by
  obtain ⟨t, ht, e⟩ := h.hit hg
  unfold moveE moveM; rw [ht]; simp only []; rw [e.writes, if_pos hw, if_pos hw]; exact ⟨rfl, h⟩
theorem Rel.move (h : Rel M L) (hj : j < L.length) (hn : (L.getD j default).1 = n) (hU : (L.getD j default).2 = U) (hw : ¬ 0 < U.writes.length) : moveE M n = 0 ∧ Rel (moveM M n l s) (L.set j (n, moveT U l s)) := by
  have hg : mget L n = some U := by rw [← hn, ← hU]; exact mget_atR h.up hj
  obtain ⟨t, ht, e⟩ := h.hit hg
  have hw2 : ¬ 0 < t.writes.length := by rw [e.writes]; exact hw
  refine ⟨by unfold moveE; rw [ht]; simp only []; rw [if_neg hw2], ?_, setR_up h.up hj hn, fun y => ?_⟩
  · unfold moveM; rw [ht]; simp only []; rw [if_neg hw2]; exact nodup_mput h.nodup
  · rw [move_get h.nodup ht hw2, setR_get h.up hj hn]
    by_cases hy : y = n
    · rw [if_pos hy, if_pos hy]; exact ⟨rfl, rfl, e.writes, e.doomed, e.reads⟩
    · rw [if_neg hy, if_neg hy]; exact h.eq y
theorem Rel.leave_none (h : Rel M L) (hg : mget L n = none) : leaveE M n = 18 ∧ Rel (mdel M n) L := by
  have hm := h.miss hg
  refine ⟨by unfold leaveE; rw [hm]; rfl, ?_⟩
  have : mdel M n = M := by unfold mdel; rw [mlook_none.2 (mget_none.1 hm)]
  rw [this]; exact h
theorem Rel.leave (h : Rel M L) (hj : j < L.length) (hn : (L.getD j default).1 = n) : leaveE M n = 0 ∧ Rel (mdel M n) (cutR L j) := by
  obtain ⟨t, ht, e⟩ := h.hit (n := n) (U := (L.getD j default).2) (by rw [← hn]; exact mget_atR h.up hj)
  refine ⟨by unfold leaveE; rw [ht]; rfl, (mdel_keys_sub.map Prod.fst).nodup h.nodup, cutR_up h.up, fun y => ?_⟩
  rw [mdel_get h.nodup, cutR_get h.up hj hn]
  by_cases hy : y = n
  · rw [if_pos hy, if_pos hy]; exact trivial
  · rw [if_neg hy, if_neg hy]; exact h.eq y
/-! asking -/
def outR (n : Int) (U : TX) (Rs : List (List UInt8)) (x : List UInt8) (K : TM) : Int := if (K.any fun a => wayD n U Rs x a.1 a.2) = true then 3 else if (K.any fun a => wayB n U Rs x a.1 a.2) = true then 2 else 1
def askRT (U : TX) (Rs : List (List UInt8)) (x : List UInt8) : TX := { U with reads := U.reads ++ Rs.map (fun s => (s, U.label)), writes := gotW U x }
theorem cov_eq {R S : List (List UInt8 × List UInt16)} {y : List UInt8} (h : ∀ a, a ∈ R ↔ a ∈ S) : covB R y l = covB S y l := by
  unfold covB
  rw [Bool.eq_iff_iff, List.any_eq_true, List.any_eq_true]
  exact ⟨fun ⟨a, h1, h2⟩ => ⟨a, (h a).1 h1, h2⟩, fun ⟨a, h1, h2⟩ => ⟨a, (h a).2 h1, h2⟩⟩
theorem TEq.stand {t u : TX} (h : TEq t u) : standB t Rs x l = standB u Rs x l := by unfold standB; rw [h.writes, cov_eq h.reads]
theorem TEq.wayB {t u : TX} {y : Int} (h : TEq t u) (h2 : TEq T U) : wayB n T Rs x y t = wayB n U Rs x y u := by unfold Go.Proofs.Ytmhdbphpmgjpcaa.wayB; rw [h.label, h2.label, h.stand]
theorem TEq.wayD {t u : TX} {y : Int} (h : TEq t u) (h2 : TEq T U) : wayD n T Rs x y t = wayD n U Rs x y u := by unfold Go.Proofs.Ytmhdbphpmgjpcaa.wayD; rw [h.label, h2.label, h.stand, h.stamp, h2.stamp]
theorem any_L (hu : L.Pairwise (fun a b => a.1 < b.1)) {p : Int → TX → Bool} : (L.any fun a => p a.1 a.2) = true ↔ ∃ y u, mget L y = some u ∧ p y u = true := by
  rw [List.any_eq_true]
  exact ⟨fun ⟨a, ha, hp⟩ => ⟨a.1, a.2, mget_of_mem (upN hu) ha, hp⟩, fun ⟨y, u, hg, hp⟩ => ⟨_, mget_mem hg, hp⟩⟩
theorem Rel.any (h : Rel M L) {p q : Int → TX → Bool} (hpq : ∀ y t u, TEq t u → p y t = q y u) : (M.any fun a => p a.1 (txAt M a.1)) = L.any fun a => q a.1 a.2 := by
  rw [Bool.eq_iff_iff, any_get h.nodup, any_L h.up]
  constructor
  · rintro ⟨y, t, hg, hp⟩
    have := h.eq y; rw [hg] at this
    cases hl : mget L y with
    | none => rw [hl] at this; exact this.elim
    | some u => rw [hl] at this; exact ⟨y, u, hl, by rw [← hpq y t u this]; exact hp⟩
  · rintro ⟨y, u, hg, hp⟩
    obtain ⟨t, ht, e⟩ := h.hit hg
    exact ⟨y, t, ht, by rw [hpq y t u e]; exact hp⟩
theorem Rel.ans (h : Rel M L) (hT : TEq T U) : ansO M n T Rs x = outR n U Rs x L := by
  rw [ans_eq]; unfold outR
  rw [h.any (p := wayD n T Rs x) (q := wayD n U Rs x) fun y t u e => e.wayD hT, h.any (p := wayB n T Rs x) (q := wayB n U Rs x) fun y t u e => e.wayB hT]
theorem mem_addR {R : List (List UInt8 × List UInt16)} {a b : List UInt8 × List UInt16} : b ∈ addR R a ↔ b ∈ R ∨ b = a := by
  unfold addR
  split
  · rename_i h
    rw [List.any_eq_true] at h
    obtain ⟨r, hr, he⟩ := h
    simp only [Bool.and_eq_true, decide_eq_true_eq] at he
    have : a = r := Prod.ext he.1 he.2
    exact ⟨.inl, fun q => q.elim id fun q => by rw [q, this]; exact hr⟩
  · rw [List.mem_append, List.mem_singleton]
theorem mem_gotR {lab : List UInt16} {b : List UInt8 × List UInt16} : ∀ (Rs : List (List UInt8)) (R : List (List UInt8 × List UInt16)), b ∈ Rs.foldl (fun R s => addR R (s, lab)) R ↔ b ∈ R ∨ b ∈ Rs.map (fun s => (s, lab))
  | [], R => by simp
  | r :: Rs, R => by
    rw [List.foldl_cons, mem_gotR Rs, mem_addR, List.map_cons, List.mem_cons]
    constructor
    · rintro ((q | q) | q)
      · exact .inl q
      · exact .inr (.inl q)
      · exact .inr (.inr q)
    · rintro (q | q | q)
      · exact .inl (.inl q)
      · exact .inl (.inr q)
      · exact .inr q
theorem TEq.got (h : TEq T U) : TEq { T with reads := gotR T Rs, writes := gotW T x } (askRT U Rs x) :=
  ⟨h.label, h.stamp, by show gotW T x = gotW U x; unfold gotW; rw [h.writes], h.doomed, fun a => by
    show a ∈ gotR T Rs ↔ a ∈ U.reads ++ _
    unfold gotR
    rw [mem_gotR, List.mem_append, h.reads, h.label]⟩
theorem Rel.ask_none (h : Rel M L) (hg : mget L n = none) : askE M n = 18 ∧ askV M n Rs x = 0 ∧ Rel (askM M n Rs x) L := by
  have hm := h.miss hg; unfold askE askV askM; rw [hm]; exact ⟨rfl, rfl, h⟩
theorem Rel.ask (h : Rel M L) (hj : j < L.length) (hn : (L.getD j default).1 = n) (hU : (L.getD j default).2 = U) :
    askE M n = 0 ∧ askV M n Rs x = outR n U Rs x L ∧ (outR n U Rs x L = 1 → Rel (askM M n Rs x) (L.set j (n, askRT U Rs x))) ∧ (outR n U Rs x L ≠ 1 → Rel (askM M n Rs x) L) := by
  have hg : mget L n = some U := by rw [← hn, ← hU]; exact mget_atR h.up hj
  obtain ⟨t, ht, e⟩ := h.hit hg
  have ha := h.ans (n := n) (Rs := Rs) (x := x) e
  have hN : ((askM M n Rs x).map Prod.fst).Nodup := by unfold askM; rw [ht]; exact nodup_mput h.nodup
  refine ⟨by unfold askE; rw [ht]; rfl, by unfold askV; rw [ht]; exact ha, fun ho => ⟨hN, setR_up h.up hj hn, fun y => ?_⟩, fun ho => ⟨hN, h.up, fun y => ?_⟩⟩
  · rw [ask_get h.nodup ht, setR_get h.up hj hn]
    by_cases hy : y = n
    · rw [if_pos hy, if_pos hy]
      show TEq (askT t Rs x (ansO M n t Rs x)) _
      unfold askT; rw [if_pos (ha.trans ho)]; exact e.got
    · rw [if_neg hy, if_neg hy]; exact h.eq y
  · rw [ask_get h.nodup ht]
    by_cases hy : y = n
    · subst hy
      rw [if_pos rfl, hg]
      show TEq (askT t Rs x (ansO M y t Rs x)) _
      unfold askT; rw [if_neg (fun q => ho (ha.symm.trans q))]; exact e
    · rw [if_neg hy]; exact h.eq y
/-! a commit -/
def cR (n : Int) (U : TX) (a : Int × TX) : Bool := decide (a.1 ≠ n) && ((U.writes.any fun s => covB a.2.reads s U.label) && (flowsL U.label a.2.label && !decide (U.label = a.2.label)))
def dR (n : Int) (U : TX) (a : Int × TX) : Int × TX := if cR n U a = true then (a.1, doomT a.2) else a
theorem dR_key {a : Int × TX} : (dR n U a).1 = a.1 := by unfold dR; split <;> rfl
theorem dmap_up (hu : L.Pairwise (fun a b => a.1 < b.1)) : (L.map (dR n U)).Pairwise (fun a b => a.1 < b.1) := by
  rw [List.pairwise_map]; exact hu.imp fun q => by rw [dR_key, dR_key]; exact q
theorem srtK_eq {l s : List Int} (hp : l.Perm s) (hs : s.Pairwise (fun x y => x ≤ y)) : l.mergeSort (fun x y => decide (x ≤ y)) = s := by
  have tr : ∀ a b c : Int, decide (a ≤ b) = true → decide (b ≤ c) = true → decide (a ≤ c) = true := fun a b c h1 h2 => by simp only [decide_eq_true_eq] at *; omega
  have to : ∀ a b : Int, (decide (a ≤ b) || decide (b ≤ a)) = true := fun a b => by simp only [Bool.or_eq_true, decide_eq_true_eq]; omega
  refine List.Perm.eq_of_pairwise (le := fun a b => decide (a ≤ b) = true) (fun a b _ _ h1 h2 => ?_) (List.pairwise_mergeSort tr to _) (hs.imp fun h => decide_eq_true h) ((List.mergeSort_perm _ _).trans hp)
  simp only [decide_eq_true_eq] at h1 h2; omega
theorem Rel.keys (h : Rel M L) : sortK M = L.map Prod.fst := by
  refine srtK_eq ((List.perm_ext_iff_of_nodup h.nodup (upN h.up)).2 fun k => ?_) (by rw [List.pairwise_map]; exact h.up.imp fun q => by omega)
  have := h.eq k
  constructor
  · intro hk
    obtain ⟨t, ht⟩ := mget_key hk
    rw [ht] at this
    cases hl : mget L k with
    | none => rw [hl] at this; exact this.elim
    | some u => exact List.mem_map.2 ⟨_, mget_mem hl, rfl⟩
  · intro hk
    obtain ⟨u, hu⟩ := mget_key hk
    obtain ⟨t, ht, _⟩ := h.hit hu
    exact List.mem_map.2 ⟨_, mget_mem ht, rfl⟩
theorem Rel.com_none (h : Rel M L) (hg : mget L n = none) : leaveE M n = 18 ∧ comL M n = [] ∧ Rel (comM M n) L := by
  have hm := h.miss hg; unfold leaveE comL comM; rw [hm]; exact ⟨rfl, rfl, h⟩
theorem Rel.com (h : Rel M L) (hj : j < L.length) (hn : (L.getD j default).1 = n) (hU : (L.getD j default).2 = U) :
    leaveE M n = 0 ∧ comL M n = (L.filter (cR n U)).map Prod.fst ∧ Rel (comM M n) (cutR (L.map (dR n U)) j) := by
  have hg : mget L n = some U := by rw [← hn, ← hU]; exact mget_atR h.up hj
  obtain ⟨t, ht, e⟩ := h.hit hg
  have hcond : ∀ a ∈ L, (decide (a.1 ≠ n) && upQ t (txAt M a.1).label && hitB M t a.1) = cR n U a := fun a ha => by
    have hq := mget_of_mem (upN h.up) (show (a.1, a.2) ∈ L from ha)
    obtain ⟨u, hu, e2⟩ := h.hit hq
    unfold upQ hitB cR
    rw [txAt_of hu, e2.label, e.label, e.writes]
    have e3 : (U.writes.any fun s => covB u.reads s U.label) = U.writes.any fun s => covB a.2.reads s U.label := by congr 1; funext s; exact cov_eq e2.reads
    rw [e3]
    have e4 : decide (a.2.label ≠ U.label) = !decide (U.label = a.2.label) := by
      by_cases c : a.2.label = U.label
      · simp [c]
      · have c2 : ¬ U.label = a.2.label := fun q => c q.symm
        simp [c, c2]
    rw [e4, Bool.and_assoc]
    congr 1
    rw [Bool.and_comm, Bool.and_comm (!decide (U.label = a.2.label))]
  refine ⟨by unfold leaveE; rw [ht]; rfl, ?_, ?_, cutR_up (dmap_up h.up), fun y => ?_⟩
  · unfold comL othersL; rw [ht]; simp only []
    rw [List.filter_filter, h.keys, List.filter_map]
    congr 1
    refine List.filter_congr fun a ha => ?_
    rw [← hcond a ha]; simp only [Function.comp]; rw [Bool.and_comm]
  · unfold comM; rw [ht]; exact (mdel_keys_sub.map Prod.fst).nodup (by rw [doomL_keys]; exact h.nodup)
  · have hgm : mget (L.map (dR n U)) y = (mget L y).map fun u => (dR n U (y, u)).2 := by rw [mget_map fun a => dR_key]
    rw [com_get h.nodup ht, cutR_get (dmap_up h.up) (by simpa using hj) (by simp [List.getD_eq_getElem?_getD, hj, dR_key] at hn ⊢; exact hn), hgm]
    by_cases hy : y = n
    · rw [if_pos hy, if_pos hy]; exact trivial
    · rw [if_neg hy, if_neg hy]
      have := h.eq y
      cases hm : mget M y with
      | none =>
        rw [hm] at this
        cases hl : mget L y with
        | none => exact trivial
        | some u => rw [hl] at this; exact this.elim
      | some u1 =>
        rw [hm] at this
        cases hl : mget L y with
        | none => rw [hl] at this; exact this.elim
        | some u =>
          rw [hl] at this
          have hc := hcond (y, u) (mget_mem hl)
          simp only [decide_eq_true (show (y, u).1 ≠ n from hy), Bool.true_and] at hc
          show TEq (dm1 t u1) (dR n U (y, u)).2
          unfold dm1 dR
          unfold hitB at hc
          rw [txAt_of hm] at hc
          rw [hc]
          split
          · exact ⟨this.label, this.stamp, this.writes, rfl, this.reads⟩
          · exact this
end
end Go.Proofs.Ytmhdbphpmgjpcaa

namespace Go.Proofs.Ytmhdbphpmgjpcaa
open Go.Gx
structure RC where
  la : Value
  rv : Value
  wv : Value
  D : List RD
instance : Inhabited RC := ⟨⟨.slice none 0 0, .slice none 0 0, .slice none 0 0, []⟩⟩
abbrev RE := (Int × TX) × RC
def cellsRE (e : RE) : List Value := [.int .i64 e.1.1, e.2.la, .int .u64 e.1.2.stamp, e.2.rv, e.2.wv, .bool e.1.2.doomed]
def RfAt (w : World) (base : Nat) (e : RE) : Prop :=
  Own w base 46 1 e.2.la e.1.2.label.length (e.1.2.label.map u16v) ∧ Own w base 181 2 e.2.rv e.2.D.length (e.2.D.flatMap cellsRd) ∧ (∀ x9 ∈ e.2.D.map rdL, Own w base 46 1 x9.1 x9.2.length (x9.2.map u16v)) ∧ Own w base 9 1 e.2.wv e.1.2.writes.length (e.1.2.writes.map sv) ∧ e.2.D.map rOf = e.1.2.reads
def PartE (e : RE) (x : Nat) : Prop := Bl e.2.la x ∨ Bl e.2.rv x ∨ Bl e.2.wv x ∨ ∃ r ∈ e.2.D, Bl r.la x
def Ap (E : List RE) : Prop := E.Pairwise (fun a b => DJ a.2.rv b.2.rv)
def RfX (w : World) (base r : Nat) (lv : Value) (E : List RE) (F : Nat → Prop) : Prop :=
  base ≤ r ∧ Bx w r 117 [lv] ∧ Own w base 177 6 lv E.length (E.flatMap cellsRE) ∧ (∀ e ∈ E, RfAt w base e) ∧ Ap E ∧ (∀ x, (x = r ∨ Bl lv x ∨ ∃ e ∈ E, PartE e x) → F x) ∧ (∀ x, F x → base ≤ x ∧ x < w.heap.size)
section
variable {w w' : World} {base r i j b t e sz n : Nat} {lv v lv' : Value} {E E' : List RE} {F G : Nat → Prop} {cs : List Value} {a : RE}
theorem RfAt.lt (h : RfAt w base a) : ∀ x, PartE a x → base ≤ x ∧ x < w.heap.size := fun x hx => by
  obtain ⟨h1, h2, h3, h4, _⟩ := h
  rcases hx with hx | hx | hx | ⟨q, hq, hx⟩
  · exact h1.lt x hx
  · exact h2.lt x hx
  · exact h4.lt x hx
  · exact (h3 _ (List.mem_map.2 ⟨q, hq, rfl⟩)).lt x hx
theorem RfAt.keepG (h : RfAt w base a) (E : Gr w w' G) (hd : ∀ x, PartE a x → ¬ G x) : RfAt w' base a := by
  obtain ⟨h1, h2, h3, h4, h5⟩ := h
  refine ⟨h1.keepG E fun x hx => hd x (.inl hx), h2.keepG E fun x hx => hd x (.inr (.inl hx)), fun x9 hx9 => (h3 x9 hx9).keepG E fun x hx => ?_, h4.keepG E fun x hx => hd x (.inr (.inr (.inl hx))), h5⟩
  obtain ⟨q, hq, rfl⟩ := List.mem_map.1 hx9
  exact hd x (.inr (.inr (.inr ⟨q, hq, hx⟩)))
theorem RfAt.keepT {n2 : Nat} {base2 : Nat} (h : RfAt w base a) (O : Own w base2 e sz v n2 cs) (E : w.grownBy w' v.ownBlock) (h1 : (46 : Nat) ≠ e) (h2 : (181 : Nat) ≠ e) (h3 : (9 : Nat) ≠ e) : RfAt w' base a := by
  have E2 := Gr.of E
  obtain ⟨a1, a2, a3, a4, a5⟩ := h
  exact ⟨a1.keepG E2 fun x hx hh => a1.notOwn O h1 x hx hh, a2.keepG E2 fun x hx hh => a2.notOwn O h2 x hx hh, fun x9 hx9 => (a3 x9 hx9).keepG E2 fun x hx hh => (a3 x9 hx9).notOwn O h1 x hx hh, a4.keepG E2 fun x hx hh => a4.notOwn O h3 x hx hh, a5⟩
theorem RfX.lt (h : RfX w base r lv E F) : ∀ x, F x → base ≤ x ∧ x < w.heap.size := h.2.2.2.2.2.2
theorem RfX.keepG (h : RfX w base r lv E F) (E2 : Gr w w' G) (hd : Dj F G) : RfX w' base r lv E F := by
  obtain ⟨h0, hx, O, hA, hP, hF, hl⟩ := h
  exact ⟨h0, hx.keepG E2 (hd r (hF r (.inl rfl))), O.keepG E2 (fun x hx => hd x (hF x (.inr (.inl hx)))), fun e he => (hA e he).keepG E2 fun x hx => hd x (hF x (.inr (.inr ⟨e, he, hx⟩))), hP, hF, fun x hx => ⟨(hl x hx).1, Nat.lt_of_lt_of_le (hl x hx).2 E2.size⟩⟩
theorem RfX.kz (h : RfX w base r lv E F) (E9 : w.grownBy w' none) : RfX w' base r lv E F := h.keepG (Gr.of0 E9 NoB) (fun _ _ h => h)
theorem RfX.sub (h : RfX w base r lv E F) : ∀ x, Bl lv x → F x := fun x hx => h.2.2.2.2.2.1 x (.inr (.inl hx))
theorem RfX.part (h : RfX w base r lv E F) (ha : a ∈ E) : ∀ x, PartE a x → F x := fun x hx => h.2.2.2.2.2.1 x (.inr (.inr ⟨a, ha, hx⟩))
theorem RfX.own (h : RfX w base r lv E F) : Own w base 177 6 lv E.length (E.flatMap cellsRE) := h.2.2.1
theorem RfX.bx (h : RfX w base r lv E F) : Bx w r 117 [lv] := h.2.1
theorem RfX.new (h0 : base ≤ r) (hx : Bx w r 117 [.slice none 0 0]) : RfX w base r (.slice none 0 0) [] (fun x => x = r) :=
  ⟨h0, hx, Own.nil _ _ _ _, (fun e he => by cases he), .nil, (fun x hx => hx.elim id fun hx => hx.elim (fun hx => (by cases hx)) fun ⟨e, he, _⟩ => (by cases he)), fun x hx => by subst hx; exact ⟨h0, hx.lt⟩⟩
theorem el_re {E : List RE} {e : Int} {i : Nat} (he : e = (i : Int)) (h : i < E.length) : ∀ j u, ([.int .i64 (E.getD i default).1.1, (E.getD i default).2.la, .int .u64 (E.getD i default).1.2.stamp, (E.getD i default).2.rv, (E.getD i default).2.wv, .bool (E.getD i default).1.2.doomed] : List Value)[j]? = some u → (E.flatMap cellsRE)[e.toNat * 6 + j]? = some u :=
  Go.Gx.el_flat (f := cellsRE) (d := default) (by decide) (fun _ _ => rfl) he h
theorem el_rd9 {D : List RD} {e : Int} {i : Nat} (he : e = (i : Int)) (h : i < D.length) : ∀ j u, ([.string (bs (D.getD i default).tab), (D.getD i default).la] : List Value)[j]? = some u → (D.flatMap cellsRd)[e.toNat * 2 + j]? = some u :=
  Go.Gx.el_flat (f := cellsRd) (d := default) (by decide) (fun _ _ => rfl) he h
/-! lists of elements -/
theorem Ap.sub (h : Ap E) {E2 : List RE} (hs : E2.Sublist E) : Ap E2 := h.sublist hs
theorem Ap.ins (h : Ap E) (hn : ∀ e ∈ E, DJ e.2.rv a.2.rv) : Ap (E.take j ++ [a] ++ E.drop j) := by
  unfold Ap
  rw [List.append_assoc, List.pairwise_append, List.pairwise_append]
  have e : E = E.take j ++ E.drop j := (List.take_append_drop j E).symm
  have h2 := h
  unfold Ap at h2
  rw [e, List.pairwise_append] at h2
  refine ⟨h2.1, ⟨List.pairwise_singleton _ _, h2.2.1, fun x hx y hy => ?_⟩, fun x hx y hy => ?_⟩
  · rw [List.mem_singleton] at hx; subst hx
    exact fun k h1 h3 => hn y (by rw [e]; exact List.mem_append.2 (.inr hy)) k h3 h1
  · rcases List.mem_append.1 hy with q | q
    · rw [List.mem_singleton] at q; subst q
      exact hn x (by rw [e]; exact List.mem_append.2 (.inl hx))
    · exact h2.2.2 x hx y q
theorem Ap.set (h : Ap E) (hj : j < E.length) (hr : a.2.rv.ownBlock = (E.getD j default).2.rv.ownBlock ∨ ∀ i, i < E.length → i ≠ j → DJ (E.getD i default).2.rv a.2.rv) : Ap (E.set j a) := by
  refine List.pairwise_iff_getElem.2 fun p q hp hq hpq => ?_
  rw [List.length_set] at hp hq
  have h0 := List.pairwise_iff_getElem.1 h p q hp hq hpq
  have gd : ∀ i (hi : i < E.length), E.getD i default = E[i] := fun i hi => by simp [List.getD_eq_getElem?_getD, hi]
  rw [List.getElem_set, List.getElem_set]
  by_cases e1 : j = p
  · subst e1
    rw [if_pos rfl, if_neg (by omega)]
    rcases hr with e | e
    · rw [gd j hj] at e
      exact fun k h1 h2 => h0 k (e.symm.trans h1) h2
    · have := e q hq (by omega)
      rw [gd q hq] at this
      exact fun k h1 h2 => this k h2 h1
  · rw [if_neg e1]
    by_cases e2 : j = q
    · subst e2
      rw [if_pos rfl]
      rcases hr with e | e
      · rw [gd j hj] at e
        exact fun k h1 h2 => h0 k h1 (e.symm.trans h2)
      · have := e p hp (by omega)
        rw [gd p hp] at this; exact this
    · rw [if_neg e2]; exact h0
end
end Go.Proofs.Ytmhdbphpmgjpcaa

namespace Go.Proofs.Ytmhdbphpmgjpcaa
open Go.Gx Go.RowKit
attribute [local irreducible] wpList wpStill Code.wp Calls

theorem noE_step {E : List RE} {n : Int} {i : Nat} (h : ∀ q, q < i → (E.getD q default).1.1 ≠ n) (hi : ¬ (E.getD i default).1.1 = n) : ∀ q, q < i + 1 → (E.getD q default).1.1 ≠ n := fun q hq => by
  by_cases e : q = i
  · subst e; exact hi
  · exact h q zx

theorem Find_hit9 {E : List RE} {r base : Nat} {lv : Value} {n : Int} {j : Nat} {w : World} (hbase : base ≤ w.heap.size) (hx : Bx w r 117 [lv]) (O : Own w base 177 6 lv E.length (E.flatMap cellsRE)) (hE9 : E.length ≤ 100000) (hj : j < E.length) (hn : (E.getD j default).1.1 = n) (hu : ∀ q, q < E.length → (E.getD q default).1.1 = n → q = j) : Ret Try.prog 110 #[(ptr r 0), (.int .i64 n)] w (fun v' w' => Below w.heap.size w w' ∧ v' = .int .i64 (j : Int)) := by
 have hb := Below.refl w.heap.size w
 refine enter (N := 26) Try.func110 rfl rfl (by simp) fun a hN hd hA => ?_
 have b : a.tmps.getD 0 undef = (ptr r 0) := hA 0 (by simp)
 have c : a.tmps.getD 1 undef = (.int .i64 n) := hA 1 (by simp)
 clear hA
 refine zF fun _ d => ?_
 refine zH (zD rfl (zB (d _ _ (zF fun _ d => zF fun _ e => zH (zD rfl (zB (e _ _ (wp_block (loop_m (fun mz_ az_ w' => ∃ (i : Nat), mz_ = E.length - i ∧ (Sl az_ 0 (ptr r 0)) ∧ (Sl az_ 1 (.int .i64 n)) ∧ (Sl az_ 5 (.int .i64 ((i : Nat) : Int))) ∧ (i ≤ E.length) ∧ (∀ q, q < i → (E.getD q default).1.1 ≠ n) ∧ (Below w.heap.size w w') ∧ (w.heap.size ≤ w'.heap.size) ∧ (Bx w' r 117 [lv]) ∧ (Own w' base 177 6 lv E.length (E.flatMap cellsRE))) _ hN hd ⟨0, rfl, (zL hN rfl b), (zL hN rfl c), (zU hN rfl), (Nat.zero_le _), (fun q hq => absurd hq (Nat.not_lt_zero _)), hb, (Nat.le_refl _), hx, O⟩ ?_)))))))))
 rintro _ p m f k ⟨i, rfl, h, l, g, hi, hno, hb, o, hx, O⟩
 have := hb.size
 refine zF fun _ e => zF fun _ s => zH (zG (zC f rfl g) (zG (zC f rfl h) (op_nil (zA f rfl) (zM fld117_0 (zA f rfl) (zN one115 (zA f rfl) (hx.cell rfl) (op_len_rd Try.underlying115 (zA f rfl) O.rdw (op_lss (zA f rfl) (zA f rfl) (fun t => ?_) (fun t => ?_))))))))
 ·
  refine zB (s _ _ (wp_cond_true (zA f rfl) (wp_skip (e _ _ (zF fun _ e => wp_block (zF fun _ s => zH (zG (zC f rfl h) (op_nil (zA f rfl) (zM fld117_0 (zA f rfl) (zN one115 (zA f rfl) (hx.cell rfl) (zG (zC f rfl g) (zh slt115 (zA f rfl) O.rdw (zA f rfl) zx zx ?_))))))))))))
  intro A x y z u
  refine zM fld177_0 (zA f rfl) (zN (v := (Value.int .i64 (E.getD i default).1.1)) one3 (zA f rfl) (u 0 ((.int .i64 (E.getD i default).1.1)) zz ((el_re (i := i) zx zx) 0 ((.int .i64 (E.getD i default).1.1)) rfl)) (zG (zC f rfl l) (op_eql (zA f rfl) (zA f rfl) (fun B => ?_) (fun B => ?_))))
  ·
   refine zB (s _ _ (wp_cond_true (zA f rfl) (zF fun _ s => zH (zG (zC f rfl g) (zD (zA f rfl) (zB (s _ _ (wp_ret (zb (zO (zO (zb (zO ( (ret1 rfl k (zA f rfl) ⟨_, rfl, ?_⟩)))))))))))))))
   obtain rfl : i = j := hu i zx B
   exact ⟨hb, rfl⟩
  refine zB (s _ _ (wp_cond_false (zA f rfl) (wp_skip (e _ _ (zH (zG (zC f rfl g) (op_add (zA f rfl) rfl (add64 zx) (zD (zA f rfl) (zB ?_)))))))))
  -- round 12T 24F
  exact zg _ f k ⟨(i + 1), rfl, (zL f rfl h), (zL f rfl l), (zU f rfl).trans (congrArg (Value.int .i64) zx), zx, (noE_step hno B), hb, zx, hx, O⟩ zx
 refine zB (s _ _ (wp_cond_false (zA f rfl) (wp_exit (then_exit (then_exit (blk_hit (d _ _ (zF fun _ d => zH (zD rfl (zB (d _ _ (wp_ret (ret1 rfl k (zA f rfl) ⟨_, rfl, ?_⟩)))))))))))))
 exact absurd hn (hno j zx)

theorem Find_miss9 {E : List RE} {r base : Nat} {lv : Value} {n : Int} {w : World} (hbase : base ≤ w.heap.size) (hx : Bx w r 117 [lv]) (O : Own w base 177 6 lv E.length (E.flatMap cellsRE)) (hE9 : E.length ≤ 100000) (hm : ∀ q, q < E.length → (E.getD q default).1.1 ≠ n) : Ret Try.prog 110 #[(ptr r 0), (.int .i64 n)] w (fun v' w' => Below w.heap.size w w' ∧ v' = .int .i64 (-1)) := by
 have hb := Below.refl w.heap.size w
 refine enter (N := 26) Try.func110 rfl rfl (by simp) fun a hN hd hA => ?_
 have b : a.tmps.getD 0 undef = (ptr r 0) := hA 0 (by simp)
 have c : a.tmps.getD 1 undef = (.int .i64 n) := hA 1 (by simp)
 clear hA
 refine zF fun _ a => ?_
 refine zH (zD rfl (zB (a _ _ (zF fun _ a => zF fun _ d => zH (zD rfl (zB (d _ _ (wp_block (loop_m (fun mz_ az_ w' => ∃ (i : Nat), mz_ = E.length - i ∧ (Sl az_ 0 (ptr r 0)) ∧ (Sl az_ 1 (.int .i64 n)) ∧ (Sl az_ 5 (.int .i64 ((i : Nat) : Int))) ∧ (i ≤ E.length) ∧ (∀ q, q < i → (E.getD q default).1.1 ≠ n) ∧ (Below w.heap.size w w') ∧ (w.heap.size ≤ w'.heap.size) ∧ (Bx w' r 117 [lv]) ∧ (Own w' base 177 6 lv E.length (E.flatMap cellsRE))) _ hN hd ⟨0, rfl, (zL hN rfl b), (zL hN rfl c), (zU hN rfl), (Nat.zero_le _), (fun q hq => absurd hq (Nat.not_lt_zero _)), hb, (Nat.le_refl _), hx, O⟩ ?_)))))))))
 rintro _ j k b f ⟨i, rfl, e, g, c, hi, hno, hb, h, hx, O⟩
 have := hb.size
 refine zF fun _ d => zF fun _ h => zH (zG (zC b rfl c) (zG (zC b rfl e) (op_nil (zA b rfl) (zM fld117_0 (zA b rfl) (zN one115 (zA b rfl) (hx.cell rfl) (op_len_rd Try.underlying115 (zA b rfl) O.rdw (op_lss (zA b rfl) (zA b rfl) (fun j => ?_) (fun j => ?_))))))))
 ·
  refine zB (h _ _ (wp_cond_true (zA b rfl) (wp_skip (d _ _ (zF fun _ d => wp_block (zF fun _ h => zH (zG (zC b rfl e) (op_nil (zA b rfl) (zM fld117_0 (zA b rfl) (zN one115 (zA b rfl) (hx.cell rfl) (zG (zC b rfl c) (zh slt115 (zA b rfl) O.rdw (zA b rfl) zx zx ?_))))))))))))
  intro m l o k j
  refine zM fld177_0 (zA b rfl) (zN (v := (Value.int .i64 (E.getD i default).1.1)) one3 (zA b rfl) (j 0 ((.int .i64 (E.getD i default).1.1)) zz ((el_re (i := i) zx zx) 0 ((.int .i64 (E.getD i default).1.1)) rfl)) (zG (zC b rfl g) (op_eql (zA b rfl) (zA b rfl) (fun k => ?_) (fun k => ?_))))
  ·
   refine zB (h _ _ (wp_cond_true (zA b rfl) (zF fun _ h => zH (zG (zC b rfl c) (zD (zA b rfl) (zB (h _ _ (wp_ret (zb (zO (zO (zb (zO ( (ret1 rfl f (zA b rfl) ⟨_, rfl, ?_⟩)))))))))))))))
   exact absurd k (hm i zx)
  refine zB (h _ _ (wp_cond_false (zA b rfl) (wp_skip (d _ _ (zH (zG (zC b rfl c) (op_add (zA b rfl) rfl (add64 zx) (zD (zA b rfl) (zB ?_)))))))))
  -- round 12T 24F
  exact zg _ b f ⟨(i + 1), rfl, (zL b rfl e), (zL b rfl g), (zU b rfl).trans (congrArg (Value.int .i64) zx), zx, (noE_step hno k), hb, zx, hx, O⟩ zx
 refine zB (h _ _ (wp_cond_false (zA b rfl) (wp_exit (then_exit (then_exit (blk_hit (a _ _ (zF fun _ a => zH (zD rfl (zB (a _ _ (wp_ret (ret1 rfl f (zA b rfl) ⟨_, rfl, ?_⟩)))))))))))))
 exact ⟨hb, rfl⟩

theorem has9 {L : List (List UInt8)} {v : Value} {x : List UInt8} {w : World} (hl : RdC w 0 w.heap.size 1 v L.length (L.map sv)) : Ret Try.prog 113 #[v, (.string (bs x))] w (fun v' w' => Below w.heap.size w w' ∧ v' = .bool (writB L x)) := by
 have hlm := rd_len hl
 have hb := Below.refl w.heap.size w
 refine enter (N := 18) Try.func113 rfl rfl (by simp) fun a hN hd hA => ?_
 have b : a.tmps.getD 0 undef = v := hA 0 (by simp)
 have c : a.tmps.getD 1 undef = (.string (bs x)) := hA 1 (by simp)
 clear hA
 refine zF fun _ a => ?_
 refine zH (zD rfl (zB (a _ _ (zF fun _ a => zF fun _ e => zH (zD rfl (zB (e _ _ (wp_block (loop_m (fun mz_ az_ w' => ∃ (i : Nat), mz_ = L.length - i ∧ (Sl az_ 0 v) ∧ (Sl az_ 1 (.string (bs x))) ∧ (Sl az_ 5 (.int .i64 ((i : Nat) : Int))) ∧ (i ≤ L.length) ∧ ((L.take i).any (fun y => decide (y = x)) = false) ∧ (Below w.heap.size w w') ∧ (w.heap.size ≤ w'.heap.size) ∧ (RdC w' 0 w.heap.size 1 v L.length (L.map sv))) _ hN hd ⟨0, rfl, (zL hN rfl b), (zL hN rfl c), (zU hN rfl), (Nat.zero_le _), rfl, hb, (Nat.le_refl _), hl⟩ ?_)))))))))
 rintro _ k j b f ⟨i, rfl, g, h, c, hi, hnone, hb, l, hl⟩
 have := hb.size
 refine zF fun _ e => zF fun _ j => zH (zG (zC b rfl c) (zG (zC b rfl g) (op_len_rd Try.underlying26 (zA b rfl) hl (op_lss (zA b rfl) (zA b rfl) (fun k => ?_) (fun k => ?_)))))
 ·
  refine zB (j _ _ (wp_cond_true (zA b rfl) (wp_skip (e _ _ (zF fun _ e => wp_block (zF fun _ j => zH (zG (zC b rfl g) (zG (zC b rfl c) (zh slt26 (zA b rfl) hl (zA b rfl) zx zx ?_)))))))))
  intro n m l o k
  refine zN (v := (Value.string (bs (L.getD i [])))) one9 (zA b rfl) (by have := k 0 (.string (bs (L.getD i []))) zz (el_sv (i := i) zx zx); simpa using this) (zG (zC b rfl h) (op_seql (zA b rfl) (zA b rfl) (fun l => ?_) (fun l => ?_)))
  ·
   refine zB (j _ _ (wp_cond_true (zA b rfl) (zF fun _ j => zH (zD rfl (zB (j _ _ (wp_ret (zb (zO (zO (zb (zO ( (ret1 rfl f (zA b rfl) ⟨_, rfl, ?_⟩))))))))))))))
   exact ⟨hb, congrArg Value.bool (any_hit (i := i) (d := []) zx (decide_eq_true l)).symm⟩
  refine zB (j _ _ (wp_cond_false (zA b rfl) (wp_skip (e _ _ (zH (zG (zC b rfl c) (op_add (zA b rfl) rfl (add64 zx) (zD (zA b rfl) (zB ?_)))))))))
  -- round 9T 17F
  exact zg _ b f ⟨(i + 1), rfl, (zL b rfl g), (zL b rfl h), (zU b rfl).trans (congrArg (Value.int .i64) zx), zx, (any_step zx hnone (decide_eq_false l)), hb, zx, hl⟩ zx
 refine zB (j _ _ (wp_cond_false (zA b rfl) (wp_exit (then_exit (then_exit (blk_hit (a _ _ (zF fun _ a => zH (zD rfl (zB (a _ _ (wp_ret (ret1 rfl f (zA b rfl) ⟨_, rfl, ?_⟩)))))))))))))
 exact ⟨hb, congrArg Value.bool (any_end zx hnone).symm⟩

theorem covers9 {D : List RD} {la rv wv lv : Value} {x : List UInt8} {l : List UInt16} {n s : Int} {dm : Bool} {w : World} (hR : RdC w 0 w.heap.size 2 rv D.length (D.flatMap cellsRd)) (hD : ∀ x9 ∈ D.map rdL, RdC w 0 w.heap.size 1 x9.1 x9.2.length (x9.2.map u16v)) (h8 : ∀ r ∈ D, r.lab.length ≤ 8) (hl : RdC w 0 w.heap.size 1 lv l.length (l.map u16v)) (hl8 : l.length ≤ 8) : Ret Try.prog 111 #[(.agg #[(.int .i64 n), la, (.int .u64 s), rv, wv, (.bool dm)]), (.string (bs x)), lv] w (fun v' w' => Below w.heap.size w w' ∧ v' = .bool (covB (D.map rOf) x l)) := by
 have hlm := rd_len hR
 have hb := Below.refl w.heap.size w
 refine enter (N := 33) Try.func111 rfl rfl (by simp) fun a hN hd hA => ?_
 have c : a.tmps.getD 0 undef = (.agg #[(.int .i64 n), la, (.int .u64 s), rv, wv, (.bool dm)]) := hA 0 (by simp)
 have e : a.tmps.getD 1 undef = (.string (bs x)) := hA 1 (by simp)
 have f : a.tmps.getD 2 undef = lv := hA 2 (by simp)
 clear hA
 refine zF fun _ a => zH (op_box (cs := [(.int .i64 n), la, (.int .u64 s), rv, wv, (.bool dm)]) (zC hN rfl c) rfl ?_)
 intro m k o p c g
 obtain ⟨hb, _⟩ := yE hb g
 have hR := hR.keep0 g
 have hD := all9 hD fun _ h => h.keep0 g
 have hl := hl.keep0 g
 refine zD rfl (zB (a _ _ (zF fun _ a => zF fun _ g => zH (zD rfl (zB (g _ _ (wp_block (loop_m (fun mz_ az_ w' => ∃ (i : Nat), mz_ = D.length - i ∧ (Sl az_ 1 (.string (bs x))) ∧ (Sl az_ 2 lv) ∧ (Sl az_ 3 (ptr k 0)) ∧ (Sl az_ 7 (.int .i64 ((i : Nat) : Int))) ∧ (i ≤ D.length) ∧ ((D.take i).any (fun r => decide (r.tab = x) && flowsL l r.lab) = false) ∧ (Below w.heap.size w w') ∧ (m.heap.size ≤ w'.heap.size) ∧ (RdC w' 0 w.heap.size 2 rv D.length (D.flatMap cellsRd)) ∧ (∀ x9 ∈ (D.map rdL), RdC w' 0 w.heap.size 1 x9.1 x9.2.length (x9.2.map u16v)) ∧ (RdC w' 0 w.heap.size 1 lv l.length (l.map u16v)) ∧ (Bx w' k 177 [(.int .i64 n), la, (.int .u64 s), rv, wv, (.bool dm)])) _ hN hd ⟨0, rfl, (zL hN rfl e), (zL hN rfl f), (zU hN rfl), (zU hN rfl), (Nat.zero_le _), rfl, hb, (Nat.le_refl _), hR, hD, hl, c⟩ ?_))))))))
 rintro _ t f e o ⟨i, rfl, q, p, m, k, hi, hnone, hb, u, hR, hD, hl, c⟩
 have := hb.size
 refine zF fun _ g => zF fun _ t => zH (zG (zC e rfl k) (zM fld177_3 (zC e rfl m) (zN one175 (zA e rfl) (c.cell rfl) (op_len_rd Try.underlying175 (zA e rfl) hR (op_lss (zA e rfl) (zA e rfl) (fun u => ?_) (fun u => ?_))))))
 ·
  refine zB (t _ _ (wp_cond_true (zA e rfl) (wp_skip (g _ _ (zF fun _ g => wp_block (zF fun _ t => zH (zM fld177_3 (zC e rfl m) (zN one175 (zA e rfl) (c.cell rfl) (zG (zC e rfl k) (zh slt175 (zA e rfl) hR (zA e rfl) zx zx ?_))))))))))
  intro z y B A u
  refine zM fld181_0 (zA e rfl) (zN (v := (Value.string (bs (D.getD i default).tab))) one9 (zA e rfl) (u 0 ((.string (bs (D.getD i default).tab))) zz ((el_rd9 (i := i) zx zx) 0 ((.string (bs (D.getD i default).tab))) rfl)) (zG (zC e rfl q) (op_seql (zA e rfl) (zA e rfl) (fun y => ?_) (fun y => ?_))))
  ·
   refine zG (zA e rfl) ?_
   have hli : RdC f 0 w.heap.size 1 (D.getD i default).la (D.getD i default).lab.length ((D.getD i default).lab.map u16v) := hD _ (List.mem_map.2 ⟨_, getD_mem (d := default) (i := i) zx, rfl⟩)
   have u := h8 _ (getD_mem (d := default) (i := i) (l := D) zx)
   refine zS (j := 8) (dj := 23) (b := true) rfl rfl rfl (zA e rfl) (zG (zC e rfl p) (zS (j := 8) (dj := 23) (b := true) rfl rfl rfl (zA e rfl) (zM fld177_3 (zC e rfl m) (zS (j := 8) (dj := 23) (b := true) rfl rfl rfl (zA e rfl) (zN one175 (zA e rfl) (c.cell rfl) (zS (j := 8) (dj := 23) (b := true) rfl rfl rfl (zA e rfl) (zG (zC e rfl k) (zS (j := 8) (dj := 23) (b := true) rfl rfl rfl (zA e rfl) (zh slt175 (zA e rfl) hR (zA e rfl) zx zx ?_)))))))))
   intro A B C E z
   refine zS (j := 8) (dj := 23) (b := true) rfl rfl rfl (zA e rfl) (zM fld181_1 (zA e rfl) (zS (j := 8) (dj := 23) (b := true) rfl rfl rfl (zA e rfl) (zN (v := (D.getD i default).la) one54 (zA e rfl) (z 1 _ zz ((el_rd9 (i := i) zx zx) 1 _ rfl)) (zS (j := 8) (dj := 23) (b := true) rfl rfl rfl (zA e rfl) (zj ok50 (rflowsW_ret l (D.getD i default).lab _ _ _ (by first | assumption | omega | (simp only [List.length_append, List.length_cons, List.length_nil, List.length_drop, List.length_take]; omega) | (dsimp only; omega) | decide | (simp [keyV, be8_len]; done)) (by first | assumption | omega | (simp only [List.length_append, List.length_cons, List.length_nil, List.length_drop, List.length_take]; omega) | (dsimp only; omega) | decide | (simp [keyV, be8_len]; done)) (show RdC f 0 f.heap.size 1 lv l.length (l.map u16v) from by have hh : RdC f 0 f.heap.size 1 _ _ _ := (hl.mono (L' := 0) (B' := f.heap.size) (Nat.zero_le _) zx); first | exact hh | exact hh.cast (by first | omega | (simp; try omega)) (by first | rfl | simp [u16v])) (show RdC f 0 f.heap.size 1 (D.getD i default).la (D.getD i default).lab.length ((D.getD i default).lab.map u16v) from by have hh : RdC f 0 f.heap.size 1 _ _ _ := (hli.mono (L' := 0) (B' := f.heap.size) (Nat.zero_le _) zx); first | exact hh | exact hh.cast (by first | omega | (simp; try omega)) (by first | rfl | simp [u16v]))) ⟨(zA e rfl), ⟨(zA e rfl), trivial⟩⟩ ?_)))))
   rintro _ z ⟨f, rfl⟩
   have f := zQ f
   obtain ⟨hb, _⟩ := yE hb f
   have hR := hR.keep0 f
   have hD := all9 hD fun _ h => h.keep0 f
   have hl := hl.keep0 f
   have c := c.keep0 f
   have hli := hli.keep0 f
   rcases Bool.eq_false_or_eq_true ((flowsL l (D.getD i default).lab)) with f | f
   ·
    rw [f]
    refine zc (zA e rfl) (zA e rfl) (zB (t _ _ (wp_cond_true (zA e rfl) (zF fun _ t => zH (zD rfl (zB (t _ _ (wp_ret (zb (zO (zO (zb (zO ( (ret1 rfl o (zA e rfl) ⟨_, rfl, ?_⟩)))))))))))))))
    exact ⟨hb, congrArg Value.bool ((any_hit (i := i) (d := default) zx (by rw [decide_eq_true y, Bool.true_and, f])).symm.trans covB_map)⟩
   rw [f]
   refine zc (zA e rfl) (zA e rfl) (zB (t _ _ (wp_cond_false (zA e rfl) (wp_skip (g _ _ (zH (zG (zC e rfl k) (op_add (zA e rfl) rfl (add64 zx) (zD (zA e rfl) (zB ?_))))))))))
   -- round 12T 22T 31F
   exact zg _ e o ⟨(i + 1), rfl, (zL e rfl q), (zL e rfl p), (zL e rfl m), (zU e rfl).trans (congrArg (Value.int .i64) zx), zx, (any_step zx hnone (by rw [decide_eq_true y, Bool.true_and, f])), hb, zx, hR, hD, hl, c⟩ zx
  refine zG (zA e rfl) ?_
  have u := h8 _ (getD_mem (d := default) (i := i) (l := D) zx)
  refine zR (j := 8) (dj := 23) (b := true) rfl rfl rfl (zA e rfl) rfl rfl (zR (j := 8) (dj := 23) (b := true) rfl rfl rfl (zA e rfl) rfl rfl (zR (j := 8) (dj := 23) (b := true) rfl rfl rfl (zA e rfl) rfl rfl (zR (j := 8) (dj := 23) (b := true) rfl rfl rfl (zA e rfl) rfl rfl (zR (j := 8) (dj := 23) (b := true) rfl rfl rfl (zA e rfl) rfl rfl ?_))))
  refine zR (j := 8) (dj := 23) (b := true) rfl rfl rfl (zA e rfl) rfl rfl (zR (j := 8) (dj := 23) (b := true) rfl rfl rfl (zA e rfl) rfl rfl (zR (j := 8) (dj := 23) (b := true) rfl rfl rfl (zA e rfl) rfl rfl (zd (zA e rfl) rfl (zB (t _ _ (wp_cond_false (zA e rfl) (wp_skip (g _ _ (zH (zG (zC e rfl k) (op_add (zA e rfl) rfl (add64 zx) (zD (zA e rfl) (zB ?_)))))))))))))
  -- round 12T 22F
  exact zg _ e o ⟨(i + 1), rfl, (zL e rfl q), (zL e rfl p), (zL e rfl m), (zU e rfl).trans (congrArg (Value.int .i64) zx), zx, (any_step zx hnone (by rw [decide_eq_false y, Bool.false_and])), hb, zx, hR, hD, hl, c⟩ zx
 refine zB (t _ _ (wp_cond_false (zA e rfl) (wp_exit (then_exit (then_exit (blk_hit (a _ _ (zF fun _ a => zH (zD rfl (zB (a _ _ (wp_ret (ret1 rfl o (zA e rfl) ⟨_, rfl, ?_⟩)))))))))))))
 exact ⟨hb, congrArg Value.bool ((any_end zx hnone).symm.trans covB_map)⟩

end Go.Proofs.Ytmhdbphpmgjpcaa

namespace Go.Gx
open Go.RowKit
section
variable {P : Program} {Q : Exit → Act → World → Prop} {a : Act} {w w' : World} {l : List (Nat × Value)} {ops : Array Oper} {rest : List Oper}
variable {d ty t e xt yt : Nat} {p : String} {af : Array Edge} {x y : Operand} {v : Value} {k : IntKind} {n base sz by_ b off : Nat} {cs ws : List Value} {zv : Value} {r : Int}
def CapIs (v : Value) (c : Nat) : Prop := v = .slice none 0 0 ∧ c = 0 ∨ ∃ g n, v = .slice (some g) n c
def cutS (sz : Nat) (v : Value) (k : Nat) : Value := match v with | .slice ad n c => .slice (if c = k then ad else ad.map (·.add (k * sz))) (n - k) (c - k) | x => x
theorem op_slice_cutS {w9 : World} {lo : Operand} {k : Nat} {kk : IntKind} (T : SlT P t e zv sz by_) (hx : (putsL a l).eval x = v) (O : Own w9 base e sz v n cs) (hl : (putsL a l).eval lo = .int kk r) (hr : r = (k : Int)) (hk : k ≤ n) (h : wpList P ops Q rest (putsL a ((d, cutS sz v k) :: l)) w) :
    wpList P ops Q (⟨some d, .slice t x (some lo) none none, ty, p, af, none⟩ :: rest) (putsL a l) w := by
  obtain ⟨inf, hi, hz0, hz1, hz2⟩ := info_parts T.info
  subst hr
  have R := O.rdw
  obtain ⟨hl0, ad, c, rfl, hnc, hcm, _⟩ := R
  have e1 : ¬ ((n : Int) < (k : Int)) := by omega
  have e2 : ¬ ((c : Int) < (n : Int)) := by omega
  have e3 : ¬ n < k := by omega
  have e4 : ¬ c < n := by omega
  refine op_gen (v := .slice (if c = k then ad else ad.map (·.add (k * sz))) (n - k) (c - k)) rfl ?_ h
  by_cases hck : c = k
  · subst hck
    have : n = c := by omega
    subst this
    simp [execOp, hx, hl, Instr.sliceAt, Instr.slice, run_underlying T.und, Instr.sliceBounds, Instr.sliceBound, asIntOf, sizeOf, typeInfo, hi, hz1]
  · simp [execOp, hx, hl, Instr.sliceAt, Instr.slice, run_underlying T.und, Instr.sliceBounds, Instr.sliceBound, asIntOf, sizeOf, typeInfo, hi, hz1, hk, hnc, hck]
theorem op_slice_hiC {hi : Operand} {m c : Nat} {kk : IntKind} (T : SlT P t e zv sz by_) (hx : (putsL a l).eval x = v) (hc : CapIs v c) (hh : (putsL a l).eval hi = .int kk r) (hr : r = (m : Int)) (hm : m ≤ c) (h : wpList P ops Q rest (putsL a ((d, hiV v m) :: l)) w) :
    wpList P ops Q (⟨some d, .slice t x none (some hi) none, ty, p, af, none⟩ :: rest) (putsL a l) w := by
  obtain ⟨inf, hin, hz0, hz1, hz2⟩ := info_parts T.info
  subst hr
  rcases hc with ⟨rfl, rfl⟩ | ⟨g, n0, rfl⟩
  · have h0 : m = 0 := by omega
    subst h0
    refine op_gen (v := .slice none 0 0) rfl ?_ h
    simp [execOp, hx, hh, Instr.sliceAt, Instr.slice, run_underlying T.und, Instr.sliceBounds, Instr.sliceBound, asIntOf, sizeOf, typeInfo, hin]
  · have hmc' : ¬ ((c : Int) < (m : Int)) := by omega
    have hg0 : g.add 0 = g := by cases g; simp [Addr.add]
    refine op_gen (v := .slice (some g) m c) rfl ?_ h
    simp [execOp, hx, hh, Instr.sliceAt, Instr.slice, run_underlying T.und, Instr.sliceBounds, Instr.sliceBound, asIntOf, sizeOf, typeInfo, hin, hm, hg0]
theorem Own.cap (O : Own w base e sz v n cs) : ∃ c, n ≤ c ∧ c ≤ 9223372036854775807 ∧ CapIs v c := by
  obtain ⟨c, h1, h2, h3⟩ := O.capOf
  exact ⟨c, h1, h2, h3⟩
theorem CapIs.hi {c m : Nat} (h : CapIs v c) (hm : v = .slice none 0 0 → m = 0) : CapIs (hiV v m) c := by
  rcases h with ⟨rfl, rfl⟩ | ⟨g, n0, rfl⟩
  · have := hm rfl; subst this; exact .inl ⟨rfl, rfl⟩
  · exact .inr ⟨g, m, rfl⟩
theorem Own.wide (O : Own w base e sz v n cs) {c m : Nat} (hc : CapIs v c) (hnm : n ≤ m) (hm : m ≤ c) : ∃ sp, Own w base e sz (hiV v m) m (cs ++ sp) := by
  obtain ⟨hl, ⟨rfl, rfl⟩ | ⟨g, off, cap, cur, fr, rfl, hb, hg, hf, hnc, hcm, hfit, htk⟩⟩ := O
  · rcases hc with ⟨_, rfl⟩ | ⟨g, n0, hv⟩
    · have : m = 0 := by omega
      subst this
      have : cs = [] := List.eq_nil_of_length_eq_zero (by simpa using hl)
      subst this
      exact ⟨[], Own.nil _ _ _ _⟩
    · cases hv
  · rcases hc with ⟨hv, _⟩ | ⟨g2, n0, hv⟩
    · cases hv
    · injection hv with e1 e2 e3
      subst e3
      have hmm : m * sz ≤ cap * sz := Nat.mul_le_mul_right _ hm
      have hnn : n * sz ≤ m * sz := Nat.mul_le_mul_right _ hnm
      have hdl : (cur.toList.drop off).length = cur.size - off := by simp
      refine ⟨((cur.toList.drop off).take (m * sz)).drop (n * sz), ?_⟩
      have key : cs ++ ((cur.toList.drop off).take (m * sz)).drop (n * sz) = (cur.toList.drop off).take (m * sz) := by
        conv => rhs; rw [← List.take_append_drop (n * sz) ((cur.toList.drop off).take (m * sz))]
        rw [List.take_take, Nat.min_eq_left hnn, htk]
      rw [key]
      exact ⟨by rw [List.length_take, hdl]; omega, .inr ⟨g, off, cap, cur, fr, rfl, hb, hg, hf, hm, hcm, hfit, rfl⟩⟩
end
end Go.Gx

namespace Go.Gx
open Go.RowKit
section
variable {P : Program} {Q : Exit → Act → World → Prop} {a : Act} {w w' : World} {l : List (Nat × Value)} {ops : Array Oper} {rest : List Oper}
variable {d ty t e tx xt yt : Nat} {p : String} {af : Array Edge} {x y : Operand} {v xv : Value} {k : IntKind} {n m i c base sz by_ b off : Nat} {cs ws news : List Value} {zv : Value} {r : Int}
theorem Bx.shape {cs : List Value} (h : Bx w b t cs) : w.shape? b = some (t, cs.length) := by
  have h' : w.heap[b]? = some (.cells cs.toArray t (0, 0)) := h
  simp [World.shape?, h']
end
end Go.Gx

namespace Go.Gx
open Go.RowKit
section
variable {w : World} {base e sz n k i : Nat} {v : Value} {cs xs sp zs : List Value}
theorem Own.cutO (O : Own w base e sz v n cs) (hk : k ≤ n) : Own w base e sz (cutS sz v k) (n - k) (cs.drop (k * sz)) := by
  obtain ⟨_, ad, c, rfl, _⟩ := O.rdw
  exact O.dropV hk
theorem Own.hiCut (O : Own w base e sz v n cs) (hk : k ≤ n) : Own w base e sz (hiV v k) k (cs.take (k * sz)) := by
  obtain ⟨hl, ⟨rfl, rfl⟩ | ⟨g, off, cap, cur, fr, rfl, hb, hg, hf, hnc, hcm, hfit, htk⟩⟩ := O
  · have h0 : k = 0 := by omega
    subst h0
    simpa [hiV] using Own.nil w base e sz
  · have hkn : k * sz ≤ n * sz := Nat.mul_le_mul_right _ hk
    refine ⟨by rw [List.length_take]; omega, .inr ⟨g, off, cap, cur, fr, rfl, hb, hg, hf, by omega, hcm, hfit, ?_⟩⟩
    rw [← htk, List.take_take, Nat.min_eq_left hkn]
end
section
variable {P : Program} {Q : Exit → Act → World → Prop} {a : Act} {w w' : World} {l : List (Nat × Value)} {ops : Array Oper} {rest : List Oper} {d ty : Nat} {p : String} {af : Array Edge} {x y : Operand} {vx vy u : Value}
end
end Go.Gx

namespace Go.Proofs.Ytmhdbphpmgjpcaa
open Go.Gx Go.RowKit
attribute [local irreducible] wpList wpStill Code.wp Calls

theorem takeRE {E : List RE} {k : Nat} (h : k ≤ E.length) : (E.take k).flatMap cellsRE = (E.flatMap cellsRE).take (k * 6) := by
  conv => rhs; rw [← List.take_append_drop k E, List.flatMap_append]
  rw [List.take_left' (by rw [flat_len (f := cellsRE) (sz := 6) _ (fun _ _ => rfl), List.length_take]; omega)]
theorem dropRE {E : List RE} {k : Nat} (h : k ≤ E.length) : (E.drop k).flatMap cellsRE = (E.flatMap cellsRE).drop (k * 6) := by
  conv => rhs; rw [← List.take_append_drop k E, List.flatMap_append]
  rw [List.drop_left' (by rw [flat_len (f := cellsRE) (sz := 6) _ (fun _ _ => rfl), List.length_take]; omega)]
theorem one_sub {E E2 : List RE} (h : (E.flatMap cellsRE).all Value.oneCell' = true) (hs : ∀ e ∈ E2, e ∈ E) : (E2.flatMap cellsRE).all Value.oneCell' = true := List.all_eq_true.2 fun v hv => by
  obtain ⟨a, ha, h2⟩ := List.mem_flatMap.1 hv
  exact List.all_eq_true.1 h v (List.mem_flatMap.2 ⟨a, hs a ha, h2⟩)
theorem RfX.one {w : World} {base r : Nat} {lv : Value} {E : List RE} {F : Nat → Prop} (h : RfX w base r lv E F) : (E.flatMap cellsRE).all Value.oneCell' = true := List.all_eq_true.2 fun v hv => by
  obtain ⟨a, ha, h2⟩ := List.mem_flatMap.1 hv
  obtain ⟨q1, q2, q3, q4, q5⟩ := h.2.2.2.1 a ha
  simp only [cellsRE, List.mem_cons, List.not_mem_nil, or_false] at h2
  rcases h2 with rfl | rfl | rfl | rfl | rfl | rfl
  · rfl
  · exact q1.one
  · rfl
  · exact q2.one
  · exact q4.one
  · rfl
structure PosE (E : List RE) (n : Int) (j : Nat) : Prop where
  le : j ≤ E.length
  lo : ∀ q, q < j → (E.getD q default).1.1 < n
  hi : j < E.length → n ≤ (E.getD j default).1.1
theorem loE_step {E : List RE} {n : Int} {i : Nat} (h : ∀ q, q < i → (E.getD q default).1.1 < n) (hi : (E.getD i default).1.1 < n) : ∀ q, q < i + 1 → (E.getD q default).1.1 < n := fun q hq => by
  by_cases e : q = i
  · subst e; exact hi
  · exact h q zx

theorem Enter_new9 {E : List RE} {r base : Nat} {lv : Value} {n : Int} {tv : Value} {l : List UInt16} {s : Int} {w : World} (hbase : base ≤ w.heap.size) (hx : Bx w r 117 [lv]) (O : Own w base 177 6 lv E.length (E.flatMap cellsRE)) (hE9 : E.length ≤ 100000) (hone : (E.flatMap cellsRE).all Value.oneCell' = true) (hm : ∀ q, q < E.length → (E.getD q default).1.1 ≠ n) (hl : RdC w 0 w.heap.size 1 tv l.length (l.map u16v)) (hl8 : l.length ≤ 100) : Ret Try.prog 63 #[(ptr r 0), (.int .i64 n), tv, (.int .u64 s)] w (fun v' w' => w.grownBy w' (some r) ∧ v' = .int .i64 0 ∧ ∃ (j : Nat) (lv' nv : Value), PosE E n j ∧ Bx w' r 117 [lv'] ∧ Own w' w.heap.size 177 6 lv' (E.length + 1) ((E.take j ++ [(((n, newT l s), ⟨nv, .slice none 0 0, .slice none 0 0, []⟩) : RE)] ++ E.drop j).flatMap cellsRE) ∧ Own w' w.heap.size 46 1 nv l.length (l.map u16v)) := by
 have hi_r := hx.lt
 have hb := grown_refl w (some r)
 refine enter (N := 63) Try.func63 rfl rfl (by simp) fun a hN hd hA => ?_
 have c : a.tmps.getD 0 undef = (ptr r 0) := hA 0 (by simp)
 have d : a.tmps.getD 1 undef = (.int .i64 n) := hA 1 (by simp)
 have f : a.tmps.getD 2 undef = tv := hA 2 (by simp)
 have g : a.tmps.getD 3 undef = (.int .u64 s) := hA 3 (by simp)
 clear hA
 refine zF fun _ o => zH (zD rfl (zB ?_))
 refine o _ _ (zF fun _ o => zF fun _ p => zH (zG (zC hN rfl c) (zG (zC hN rfl d) (zj ok110 (Find_miss9 zx hx O zx hm) ⟨(zA hN rfl), ⟨(zA hN rfl), trivial⟩⟩ ?_))))
 rintro _ u ⟨t, rfl⟩
 have t := zQ t
 have := t.size
 have hx := hx.keep0 t
 have O := O.keep0 t
 have hl := hl.keep0 t
 have hb := grow_step0 hb t
 refine op_bin (v := .bool false) (zA hN rfl) rfl (by rw [binOp_geq]; rfl) (zB (p _ _ (wp_cond_false (zA hN rfl) (wp_skip (o _ _ (seq_join2 (N := 63) (fun az_ w' => ∃ (j : Nat), (Sl az_ 0 (ptr r 0)) ∧ (Sl az_ 1 (.int .i64 n)) ∧ (Sl az_ 2 tv) ∧ (Sl az_ 3 (.int .u64 s)) ∧ (Sl az_ 8 (.int .i64 0)) ∧ (Sl az_ 9 (.int .i64 ((j : Nat) : Int))) ∧ (PosE E n j) ∧ (w.grownBy w' (some r)) ∧ (u.heap.size ≤ w'.heap.size) ∧ (Bx w' r 117 [lv]) ∧ (Own w' base 177 6 lv E.length (E.flatMap cellsRE)) ∧ (RdC w' 0 w.heap.size 1 tv l.length (l.map u16v))) (fun x => ?_) ?_))))))
 ·
  refine zF fun _ o => zH (zD rfl (zB (o _ _ (zF fun _ o => wp_block (loop_m (fun mz_ az_ w' => ∃ (j : Nat), mz_ = E.length - j ∧ (Sl az_ 0 (ptr r 0)) ∧ (Sl az_ 1 (.int .i64 n)) ∧ (Sl az_ 2 tv) ∧ (Sl az_ 3 (.int .u64 s)) ∧ (Sl az_ 8 (.int .i64 0)) ∧ (Sl az_ 9 (.int .i64 ((j : Nat) : Int))) ∧ (j ≤ E.length) ∧ (∀ q, q < j → (E.getD q default).1.1 < n) ∧ (w.grownBy w' (some r)) ∧ (u.heap.size ≤ w'.heap.size) ∧ (Bx w' r 117 [lv]) ∧ (Own w' base 177 6 lv E.length (E.flatMap cellsRE)) ∧ (RdC w' 0 w.heap.size 1 tv l.length (l.map u16v))) _ hN hd ⟨0, rfl, (zL hN rfl c), (zL hN rfl d), (zL hN rfl f), (zL hN rfl g), (zU hN rfl), (zU hN rfl), (Nat.zero_le _), (fun q hq => absurd hq (Nat.not_lt_zero _)), hb, (Nat.le_refl _), hx, O, hl⟩ ?_)))))
  rintro _ K J y C ⟨j, rfl, z, B, H, F, D, A, hj, hlo, hb, I, hx, O, hl⟩
  have := hb.size
  refine zF fun _ p => zF fun _ I => zH (zG (zC y rfl A) (zG (zC y rfl z) (op_nil (zA y rfl) (zM fld117_0 (zA y rfl) (zN one115 (zA y rfl) (hx.cell rfl) (op_len_rd Try.underlying115 (zA y rfl) O.rdw (op_lss (zA y rfl) (zA y rfl) (fun J => ?_) (fun J => ?_))))))))
  ·
   refine zG (zA y rfl) (zS (j := 7) (dj := 22) (b := true) rfl rfl rfl (zA y rfl) ?_)
   refine zG (zC y rfl z) (zS (j := 7) (dj := 22) (b := true) rfl rfl rfl (zA y rfl) (op_nil (zA y rfl) (zS (j := 7) (dj := 22) (b := true) rfl rfl rfl (zA y rfl) (zM fld117_0 (zA y rfl) (zS (j := 7) (dj := 22) (b := true) rfl rfl rfl (zA y rfl) (zN one115 (zA y rfl) (hx.cell rfl) (zS (j := 7) (dj := 22) (b := true) rfl rfl rfl (zA y rfl) (zG (zC y rfl A) (zS (j := 7) (dj := 22) (b := true) rfl rfl rfl (zA y rfl) (zh slt115 (zA y rfl) O.rdw (zA y rfl) zx zx ?_))))))))))
   intro P K L M J
   refine zS (j := 7) (dj := 22) (b := true) rfl rfl rfl (zA y rfl) (zM fld177_0 (zA y rfl) (zS (j := 7) (dj := 22) (b := true) rfl rfl rfl (zA y rfl) (zN (v := (Value.int .i64 (E.getD j default).1.1)) one3 (zA y rfl) (J 0 ((.int .i64 (E.getD j default).1.1)) zz ((el_re (i := j) zx zx) 0 ((.int .i64 (E.getD j default).1.1)) rfl)) (zS (j := 7) (dj := 22) (b := true) rfl rfl rfl (zA y rfl) (zG (zC y rfl B) (zS (j := 7) (dj := 22) (b := true) rfl rfl rfl (zA y rfl) (op_lss (zA y rfl) (zA y rfl) (fun K => ?_) (fun K => ?_))))))))
   ·
    refine zc (zA y rfl) (zA y rfl) (zB (I _ _ (wp_cond_true (zA y rfl) (wp_skip (p _ _ (wp_block (zH (zG (zC y rfl A) (op_add (zA y rfl) rfl (add64 zx) (zD (zA y rfl) (zB (blk_normal ?_))))))))))))
    -- round 21T 32T
    exact zg _ y C ⟨(j + 1), rfl, (zL y rfl z), (zL y rfl B), (zL y rfl H), (zL y rfl F), (zL y rfl D), (zU y rfl).trans (congrArg (Value.int .i64) zx), zx, (loE_step hlo (by assumption)), hb, zx, hx, O, hl⟩ zx
   refine zc (zA y rfl) (zA y rfl) (zB (I _ _ (wp_cond_false (zA y rfl) (wp_exit (then_exit (then_exit (blk_hit (o _ _ ?_))))))))
   exact x _ _ _ y C ⟨j, (zL y rfl z), (zL y rfl B), (zL y rfl H), (zL y rfl F), (zL y rfl D), (zL y rfl A), ⟨hj, hlo, fun J => by omega⟩, hb, zx, hx, O, hl⟩
  refine zG (zA y rfl) (zR (j := 7) (dj := 22) (b := true) rfl rfl rfl (zA y rfl) rfl rfl (zR (j := 7) (dj := 22) (b := true) rfl rfl rfl (zA y rfl) rfl rfl (zR (j := 7) (dj := 22) (b := true) rfl rfl rfl (zA y rfl) rfl rfl (zR (j := 7) (dj := 22) (b := true) rfl rfl rfl (zA y rfl) rfl rfl ?_))))
  refine zR (j := 7) (dj := 22) (b := true) rfl rfl rfl (zA y rfl) rfl rfl (zR (j := 7) (dj := 22) (b := true) rfl rfl rfl (zA y rfl) rfl rfl (zR (j := 7) (dj := 22) (b := true) rfl rfl rfl (zA y rfl) rfl rfl (zR (j := 7) (dj := 22) (b := true) rfl rfl rfl (zA y rfl) rfl rfl (zR (j := 7) (dj := 22) (b := true) rfl rfl rfl (zA y rfl) rfl rfl (zR (j := 7) (dj := 22) (b := true) rfl rfl rfl (zA y rfl) rfl rfl (zd (zA y rfl) rfl (zB (I _ _ (wp_cond_false (zA y rfl) (wp_exit (then_exit (then_exit (blk_hit (o _ _ ?_))))))))))))))
  exact x _ _ _ y C ⟨j, (zL y rfl z), (zL y rfl B), (zL y rfl H), (zL y rfl F), (zL y rfl D), (zL y rfl A), ⟨hj, hlo, fun J => by omega⟩, hb, zx, hx, O, hl⟩
 rintro J K y A ⟨j, B, D, H, F, L, C, z, hb, I, hx, O, hl⟩
 have := hb.size
 refine zF fun _ o => zH ?_
 have hj := z.le
 refine zG (zC y rfl D) (op_bslice (e := 46) (pv := []) (cs := []) trivial zy ?_)
 intro S Q R T P M
 have := M.size
 have hl := hl.keep0 M
 have hb := grow_step0 hb M
 refine zG (zC y rfl H) ?_
 have U := (Own.ofBx (base := w.heap.size) (sz := 1) (n := 0) P rfl zz zx)
 refine op_append slt54 (zA y rfl) U (zA y rfl) (Src.ofRd Try.underlying54 zz hl (one_u16 _)) (by unfold maxLen; omega) zx hb.size ?_
 intro W Y V X Z
 have := X.size
 have O := (O.keep0 M).keepT U X zz
 have hb := grow_stepO hb U X zx
 have V : Own Y w.heap.size 46 1 W (0 + l.length) ((l).map u16v) := by simpa [u8v, u16v, sv] using V
 refine zG (zC y rfl F) (zf (pv := [(0, (.int .i64 n)), (1, W), (2, (.int .u64 s))]) (v := (Value.agg #[(.int .i64 n), W, (.int .u64 s), (.slice none 0 0), (.slice none 0 0), (.bool false)])) ⟨rfl, (zA y rfl), ⟨rfl, (zA y rfl), ⟨rfl, (zA y rfl), trivial⟩⟩⟩ (by obtain ⟨_, _, _, rfl⟩ := V.sl; kernel_rfl) (op_alloc (cs := [(.int .i64 0), (.slice none 0 0), (.int .u64 0), (.slice none 0 0), (.slice none 0 0), (.bool false)]) zero177 rfl ?_))
 intro af ab ad ae aa ac
 have ag : lv.ownBlock ≠ some ab := fun hh => by have := (O.lt _ hh).2; omega
 have := ac.size
 have hx := ((hx.keep0 M).keep X (by simp [Value.ownBlock]; try omega)).keep0 ac
 have V := V.keep0 ac
 have hb := grow_step0 hb ac
 have ah := aa
 refine zZ size177 (zA y rfl) (zA y rfl) rfl (by simp only [yA, yB, yC, yD, V.one]; try rfl) aa rfl ?_
 intro aj aa ai
 have := ai.size
 have hx := hx.keep ai (sN hx ah)
 have O := (O.keep0 ac).keep ai (.inr ag)
 have hl := ((hl.keepO U X zx).keep0 ac).keep ai sR
 have V := V.keepX ah ai zz
 have hb := grow_step1 hb ai zx
 refine zB (o _ _ (zF fun _ o => ?_))
 have ak : (E.take j).length = j := by rw [List.length_take]; omega
 have al : (E.drop j).length = E.length - j := List.length_drop
 obtain ⟨c9, an, ao, am⟩ := O.cap
 skip
 refine reg_split (hd := [_, _, _, _, _, _, _, _, _, _, _, _, _, _, _, _, _, _, _]) (tl := _) 19 mixed zy rfl rfl (any_tree (φ := phiV [(fun uz => uz = (ptr r 0)), (fun _ => True), (fun uz => uz = (ptr r 0)), (fun uz => uz = (ptr r 0)), (fun uz => uz = (ptr r 0)), (fun uz => uz = lv), (fun uz => uz = (.int .i64 ((j : Nat) : Int))), (fun uz => uz = (hiV lv j)), (fun _ => True), (fun uz => uz = (.agg #[(.int .i64 n), W, (.int .u64 s), (.slice none 0 0), (.slice none 0 0), (.bool false)])), (fun _ => True), (fun _ => True), (fun uz => uz = (ptr r 0)), (fun uz => uz = (ptr r 0)), (fun uz => uz = (ptr r 0)), (fun uz => uz = lv), (fun uz => uz = (.int .i64 ((j : Nat) : Int))), (fun uz => uz = (cutS 6 lv j)), (fun _ => True)]) (G := fun w' => Bx w' r 117 [lv] ∧ Bx w' ab 177 [(.int .i64 n), W, (.int .u64 s), (.slice none 0 0), (.slice none 0 0), (.bool false)]) [1, 8, 10, 11, 18] zy zy zy zy zy y (fun u w2 E h => by obtain ⟨h0, h1⟩ := h; exact ⟨h0.keep0 E, h1.keep0 E⟩) ⟨hx, aa⟩ (ObRs9.cons ?_ (ObRs9.pass rfl (ObRs9.cons ?_ (ObRs9.cons ?_ (ObRs9.cons ?_ (ObRs9.cons ?_ (ObRs9.cons ?_ (ObRs9.cons ?_ (ObRs9.pass rfl (ObRs9.cons ?_ (ObRs9.pass rfl (ObRs9.pass rfl (ObRs9.cons ?_ (ObRs9.cons ?_ (ObRs9.cons ?_ (ObRs9.cons ?_ (ObRs9.cons ?_ (ObRs9.cons ?_ (ObRs9.pass rfl (ObRs9.nil)))))))))))))))))))) (by simp only [putsL_defers]) ?_)
 ·
  intro eA aA wA hNA hGA hbsA hdpA
  have ap := (hbsA 0 rfl).trans (zL y rfl B)
  refine zG (zC hNA rfl ap) ?_
  exact obT_end rfl rfl
 ·
  intro eA aA wA hNA hGA hbsA hdpA
  have ap := (hbsA 0 rfl).trans (zL y rfl B)
  refine zG (zC hNA rfl ap) ?_
  exact obT_end rfl rfl
 ·
  intro eA aA wA hNA hGA hbsA hdpA
  have aq : Sl aA 44 (ptr r 0) := (hdpA 2 _ 44 zy rfl rfl).2 rfl
  refine op_nil (zC hNA rfl aq) ?_
  exact obT_end rfl rfl
 ·
  intro eA aA wA hNA hGA hbsA hdpA
  have aq : Sl aA 45 (ptr r 0) := (hdpA 3 _ 45 zy rfl rfl).2 rfl
  refine zM fld117_0 (zC hNA rfl aq) ?_
  exact obT_end rfl rfl
 ·
  intro eA aA wA hNA hGA hbsA hdpA
  have aq : Sl aA 46 (ptr r 0) := (hdpA 4 _ 46 zy rfl rfl).2 rfl
  obtain ⟨hx, aa⟩ := hGA
  refine zN one115 (zC hNA rfl aq) (hx.cell rfl) ?_
  exact obT_end rfl rfl
 ·
  intro eA aA wA hNA hGA hbsA hdpA
  have aq := (hbsA 9 rfl).trans (zL y rfl C)
  refine zG (zC hNA rfl aq) ?_
  exact obT_end rfl rfl
 ·
  intro eA aA wA hNA hGA hbsA hdpA
  have ar : Sl aA 47 lv := (hdpA 5 _ 47 zy rfl rfl).2 rfl
  have au : Sl aA 48 (.int .i64 ((j : Nat) : Int)) := (hdpA 6 _ 48 zy rfl rfl).2 rfl
  refine op_slice_hiC (m := j) slt115 (zC hNA rfl ar) am (zC hNA rfl au) zx zx ?_
  exact obT_end rfl rfl
 ·
  intro eA aA wA hNA hGA hbsA hdpA
  have ar := (hbsA 10 rfl).trans (zU y rfl)
  obtain ⟨hx, aa⟩ := hGA
  refine zY agg177 rfl (zC hNA rfl ar) aa ?_
  exact obT_end rfl rfl
 ·
  intro eA aA wA hNA hGA hbsA hdpA
  have ap := (hbsA 0 rfl).trans (zL y rfl B)
  refine zG (zC hNA rfl ap) ?_
  exact obT_end rfl rfl
 ·
  intro eA aA wA hNA hGA hbsA hdpA
  have ap : Sl aA 54 (ptr r 0) := (hdpA 12 _ 54 zy rfl rfl).2 rfl
  refine op_nil (zC hNA rfl ap) ?_
  exact obT_end rfl rfl
 ·
  intro eA aA wA hNA hGA hbsA hdpA
  have ap : Sl aA 55 (ptr r 0) := (hdpA 13 _ 55 zy rfl rfl).2 rfl
  refine zM fld117_0 (zC hNA rfl ap) ?_
  exact obT_end rfl rfl
 ·
  intro eA aA wA hNA hGA hbsA hdpA
  have ap : Sl aA 56 (ptr r 0) := (hdpA 14 _ 56 zy rfl rfl).2 rfl
  obtain ⟨hx, aa⟩ := hGA
  refine zN one115 (zC hNA rfl ap) (hx.cell rfl) ?_
  exact obT_end rfl rfl
 ·
  intro eA aA wA hNA hGA hbsA hdpA
  have aq := (hbsA 9 rfl).trans (zL y rfl C)
  refine zG (zC hNA rfl aq) ?_
  exact obT_end rfl rfl
 ·
  intro eA aA wA hNA hGA hbsA hdpA
  have ap : Sl aA 57 lv := (hdpA 15 _ 57 zy rfl rfl).2 rfl
  have aq : Sl aA 58 (.int .i64 ((j : Nat) : Int)) := (hdpA 16 _ 58 zy rfl rfl).2 rfl
  refine op_slice_cutS (k := j) slt115 (zC hNA rfl ap) O (zC hNA rfl aq) zx zx ?_
  exact obT_end rfl rfl
 refine kt_step (rs := [1, 10]) zy (more_mem ?_ ?_)
 ·
  intro av ap _ aw au aq ar o_ ho_; obtain rfl := zE ho_
  have := ap.size
  have O := O.keep0 ap
  have hb := grow_step0 hb ap
  refine op_bslice (e := 177) (pv := []) (cs := []) trivial zy ?_
  intro aB ax aD aC ay az
  have aE : lv.ownBlock ≠ some ax := fun hh => by have := (O.lt _ hh).2; omega
  have := az.size
  have hx := (hx.keep0 ap).keep0 az
  have O := O.keep0 az
  have V := (V.keep0 ap).keep0 az
  have aa := (aa.keep0 ap).keep0 az
  have hb := grow_step0 hb az
  refine kt_end rfl ⟨hx, aa⟩ (kt_step (rs := [8, 10]) zy (more_mem ?_ ?_))
  ·
   intro aJ aF _ aH aG aK aI o_ ho_; obtain rfl := zE ho_
   have := aF.size
   have O := O.keep0 aF
   have ay := ay.keep0 aF
   have hb := grow_step0 hb aF
   have aL : Sl aH 43 (.slice (some ⟨ax, 0, none⟩) 0 0) := (zE ((aI 1 _ 43 zy rfl rfl).1 rfl)).symm
   have aM : Sl aH 49 (hiV lv j) := (aI 7 _ 49 zy rfl rfl).2 rfl
   have aN := (Own.ofBx (base := w.heap.size) (sz := 6) (n := 0) ay rfl zz zx)
   refine op_append slt115 (zC aG rfl aL) aN (zC aG rfl aM) (Src.ofRd Try.underlying115 zz ((O.hiCut (k := j) zx).cast (n' := (E.take j).length) (cs' := (E.take j).flatMap cellsRE) (by rw [List.length_take]; omega) (takeRE zx).symm).rdw (one_sub hone (fun _ h => List.mem_of_mem_take h))) (by unfold maxLen; omega) zx hb.size ?_
   intro aQ aS aP aO aR
   have aT : DJ lv (.slice (some ⟨ax, 0, none⟩) 0 0) := fun k hk hg => by simp [Value.ownBlock] at hg; subst hg; exact aE hk
   have aU : DJ lv aQ := DJ.step aR (fun k hk => (O.lt k hk).2) aT
   have := aO.size
   have hx := (hx.keep0 aF).keep aO (by simp [Value.ownBlock]; try omega)
   have aa := (aa.keep0 aF).keep aO (by simp [Value.ownBlock]; try omega)
   have hb := grow_stepO hb aN aO zx
   have aP : Own aS w.heap.size 177 6 aQ (0 + (E.take j).length) (((E.take j)).flatMap cellsRE) := by simpa [u8v, u16v, sv] using aP
   have aV : aQ.ownBlock ≠ some ab := ne_step (v := (Value.slice (some ⟨ax, 0, none⟩) 0 0)) (w1 := aJ) ⟨aO, aR⟩ zx (by simp [Value.ownBlock]; try omega)
   refine kt_end rfl ⟨hx, aa⟩ (kt_step (rs := [10]) zy (one_mem ?_))
   intro a1 aW _ aZ aX a0 aY o_ ho_; obtain rfl := zE ho_
   have := aW.size
   have V := ((V.keep0 aF).keepT aN aO zz).keep0 aW
   have hb := grow_step0 hb aW
   have a2 : Sl aZ 51 (.agg #[(.int .i64 n), W, (.int .u64 s), (.slice none 0 0), (.slice none 0 0), (.bool false)]) := (aY 9 _ 51 zy rfl rfl).2 rfl
   refine op_bslice (e := 177) (pv := [(0, (.agg #[(.int .i64 n), W, (.int .u64 s), (.slice none 0 0), (.slice none 0 0), (.bool false)]))]) (cs := [(.int .i64 n), W, (.int .u64 s), (.slice none 0 0), (.slice none 0 0), (.bool false)]) ⟨rfl, (zC aX rfl a2), trivial⟩ (by obtain ⟨_, _, _, rfl⟩ := V.sl; kernel_rfl) ?_
   intro a6 a5 a7 a8 a4 a3
   have := a3.size
   have hx := (hx.keep0 aW).keep0 a3
   have aa := (aa.keep0 aW).keep0 a3
   have hb := grow_step0 hb a3
   refine kt_end rfl ⟨hx, aa⟩ (kt_step (rs := [11]) zy (one_mem ?_))
   intro bd a9 _ bc ba be bb o_ ho_; obtain rfl := zE ho_
   have := a9.size
   have V := (V.keep0 a3).keep0 a9
   have aP := ((aP.keep0 aW).keep0 a3).keep0 a9
   have a4 := a4.keep0 a9
   have hb := grow_step0 hb a9
   have bf : Sl bc 50 aQ := (zE ((bb 8 _ 50 zy rfl rfl).1 rfl)).symm
   have bg : Sl bc 52 (.slice (some ⟨a5, 0, none⟩) 1 1) := (zE ((bb 10 _ 52 zy rfl rfl).1 rfl)).symm
   have bh := aP
   refine op_append slt115 (zC ba rfl bf) bh (zC ba rfl bg) (Src.ofRd Try.underlying115 zz (RdC.ofBx (sz := 6) (n := 1) a4 rfl zz) (by simp only [yA, yB, yC, yD, V.one]; try rfl)) (by unfold maxLen; omega) zx hb.size ?_
   intro bk bl bj bi bm
   have := bi.size
   have hx := (hx.keep0 a9).keepO bh bi zz
   have aa := (aa.keep0 a9).keep bi (fun hh => aV hh.symm)
   have hb := grow_stepO hb bh bi zx
   have bj : Own bl w.heap.size 177 6 bk ((0 + (E.take j).length) + 1) ((((E.take j)).flatMap cellsRE ++ [(.int .i64 n), W, (.int .u64 s), (.slice none 0 0), (.slice none 0 0), (.bool false)])) := by simpa [u8v, u16v, sv] using bj
   have bn : bk.ownBlock ≠ some ab := ne_step (w1 := bd) ⟨bi, bm⟩ zx aV
   refine kt_end rfl ⟨hx, aa⟩ (kt_step (rs := [18]) zy (one_mem ?_))
   intro bt bo _ br bq bu bp o_ ho_; obtain rfl := zE ho_
   have := bo.size
   have O := (((((O.keepD aO aT).keep0 aW).keep0 a3).keep0 a9).keepD bi aU).keep0 bo
   have bj := bj.keep0 bo
   have hb := grow_step0 hb bo
   have aF : Sl br 53 bk := (zE ((bp 11 _ 53 zy rfl rfl).1 rfl)).symm
   have aG : Sl br 59 (cutS 6 lv j) := (bp 17 _ 59 zy rfl rfl).2 rfl
   have aH := bj
   refine op_append slt115 (zC bq rfl aF) aH (zC bq rfl aG) (Src.ofRd Try.underlying115 zz ((O.cutO (k := j) zx).cast (n' := (E.drop j).length) (cs' := (E.drop j).flatMap cellsRE) (by rw [List.length_drop]) (dropRE zx).symm).rdw (one_sub hone (fun _ h => List.mem_of_mem_drop h))) (by unfold maxLen; omega) zx hb.size ?_
   intro aI aJ aF aG aK
   have := aG.size
   have hx := (hx.keep0 bo).keepO aH aG zz
   have aa := (aa.keep0 bo).keep aG (fun hh => bn hh.symm)
   have hb := grow_stepO hb aH aG zx
   have aF : Own aJ w.heap.size 177 6 aI (((0 + (E.take j).length) + 1) + (E.drop j).length) (((((E.take j)).flatMap cellsRE ++ [(.int .i64 n), W, (.int .u64 s), (.slice none 0 0), (.slice none 0 0), (.bool false)]) ++ (E.drop j).flatMap cellsRE)) := by simpa [u8v, u16v, sv] using aF
   refine kt_end rfl ⟨hx, aa⟩ ?_
   intro aO aJ aN aK aL aP aM
   have aL := aL.trans ((by simp only [putsL_defers] : _ = _).trans A)
   have := aJ.size
   have hx := hx.keep0 aJ
   have aF := aF.keep0 aJ
   have hb := grow_step0 hb aJ
   have aO : Sl aN 42 (ptr r 0) := (aM 0 _ 42 rfl rfl).2 rfl
   have aP : Sl aN 60 aI := (zE ((aM 18 _ 60 rfl rfl).1 rfl)).symm
   refine split_end (from_seq (tl := [_, _, _]) zz zy rfl (op_nil (zC aK rfl aO) (zM fld117_0 (zA aK rfl) ?_)))
   have hx_old := hx
   refine za (vs := [aI]) (cs' := [aI]) size115 (zA aK rfl) (zC aK rfl aP) aF.cl rfl (by simp only [yA, yB, yC, yD, aF.one]; try rfl) hx (zI rfl) rfl ?_
   intro aM hx aI
   have := aI.size
   have V := ((((V.keepT bh bi zz).keep0 bo).keepT aH aG zz).keep0 aJ).keepX hx_old aI zz
   have aF := aF.keepX hx_old aI zz
   have hb := grown_trans hb aI
   refine zB (o _ _ (zF fun _ o => zH (zD rfl (zB (o _ _ (wp_ret (ret1 rfl aL (zA aK rfl) ⟨_, rfl, ?_⟩)))))))
   exact ⟨hb, rfl, j, _, W, z, hx, aF.cast (by simp; omega) (by simp [List.flatMap_append, cellsRE, newT]), V.cast (by simp) (by simp)⟩
  refine one_mem ?_
  intro aJ aF _ aH aI aK aG o_ ho_; obtain rfl := zE ho_
  have := aF.size
  have V := V.keep0 aF
  have hb := grow_step0 hb aF
  have aL : Sl aH 51 (.agg #[(.int .i64 n), W, (.int .u64 s), (.slice none 0 0), (.slice none 0 0), (.bool false)]) := (aG 9 _ 51 zy rfl rfl).2 rfl
  refine op_bslice (e := 177) (pv := [(0, (.agg #[(.int .i64 n), W, (.int .u64 s), (.slice none 0 0), (.slice none 0 0), (.bool false)]))]) (cs := [(.int .i64 n), W, (.int .u64 s), (.slice none 0 0), (.slice none 0 0), (.bool false)]) ⟨rfl, (zC aI rfl aL), trivial⟩ (by obtain ⟨_, _, _, rfl⟩ := V.sl; kernel_rfl) ?_
  intro aR aO aQ aP aN aM
  have := aM.size
  have hx := (hx.keep0 aF).keep0 aM
  have aa := (aa.keep0 aF).keep0 aM
  have hb := grow_step0 hb aM
  refine kt_end rfl ⟨hx, aa⟩ (kt_step (rs := [8]) zy (one_mem ?_))
  intro aW aS _ aT aU aX aV o_ ho_; obtain rfl := zE ho_
  have := aS.size
  have O := ((O.keep0 aF).keep0 aM).keep0 aS
  have ay := ((ay.keep0 aF).keep0 aM).keep0 aS
  have hb := grow_step0 hb aS
  have aY : Sl aT 43 (.slice (some ⟨ax, 0, none⟩) 0 0) := (zE ((aV 1 _ 43 zy rfl rfl).1 rfl)).symm
  have aZ : Sl aT 49 (hiV lv j) := (aV 7 _ 49 zy rfl rfl).2 rfl
  have a0 := (Own.ofBx (base := w.heap.size) (sz := 6) (n := 0) ay rfl zz zx)
  refine op_append slt115 (zC aU rfl aY) a0 (zC aU rfl aZ) (Src.ofRd Try.underlying115 zz ((O.hiCut (k := j) zx).cast (n' := (E.take j).length) (cs' := (E.take j).flatMap cellsRE) (by rw [List.length_take]; omega) (takeRE zx).symm).rdw (one_sub hone (fun _ h => List.mem_of_mem_take h))) (by unfold maxLen; omega) zx hb.size ?_
  intro a3 a5 a2 a1 a4
  have a6 : DJ lv (.slice (some ⟨ax, 0, none⟩) 0 0) := fun k hk hg => by simp [Value.ownBlock] at hg; subst hg; exact aE hk
  have a7 : DJ lv a3 := DJ.step a4 (fun k hk => (O.lt k hk).2) a6
  have := a1.size
  have hx := (hx.keep0 aS).keep a1 (by simp [Value.ownBlock]; try omega)
  have aa := (aa.keep0 aS).keep a1 (by simp [Value.ownBlock]; try omega)
  have hb := grow_stepO hb a0 a1 zx
  have a2 : Own a5 w.heap.size 177 6 a3 (0 + (E.take j).length) (((E.take j)).flatMap cellsRE) := by simpa [u8v, u16v, sv] using a2
  have a8 : a3.ownBlock ≠ some ab := ne_step (v := (Value.slice (some ⟨ax, 0, none⟩) 0 0)) (w1 := aW) ⟨a1, a4⟩ zx (by simp [Value.ownBlock]; try omega)
  refine kt_end rfl ⟨hx, aa⟩ (kt_step (rs := [11]) zy (one_mem ?_))
  intro bd a9 _ bc ba be bb o_ ho_; obtain rfl := zE ho_
  have := a9.size
  have V := (((V.keep0 aM).keep0 aS).keepT a0 a1 zz).keep0 a9
  have aN := ((aN.keep0 aS).keep a1 (by simp [Value.ownBlock]; try omega)).keep0 a9
  have a2 := a2.keep0 a9
  have hb := grow_step0 hb a9
  have bf : Sl bc 50 a3 := (zE ((bb 8 _ 50 zy rfl rfl).1 rfl)).symm
  have bg : Sl bc 52 (.slice (some ⟨aO, 0, none⟩) 1 1) := (zE ((bb 10 _ 52 zy rfl rfl).1 rfl)).symm
  have bh := a2
  refine op_append slt115 (zC ba rfl bf) bh (zC ba rfl bg) (Src.ofRd Try.underlying115 zz (RdC.ofBx (sz := 6) (n := 1) aN rfl zz) (by simp only [yA, yB, yC, yD, V.one]; try rfl)) (by unfold maxLen; omega) zx hb.size ?_
  intro bk bl bj bi bm
  have := bi.size
  have hx := (hx.keep0 a9).keepO bh bi zz
  have aa := (aa.keep0 a9).keep bi (fun hh => a8 hh.symm)
  have hb := grow_stepO hb bh bi zx
  have bj : Own bl w.heap.size 177 6 bk ((0 + (E.take j).length) + 1) ((((E.take j)).flatMap cellsRE ++ [(.int .i64 n), W, (.int .u64 s), (.slice none 0 0), (.slice none 0 0), (.bool false)])) := by simpa [u8v, u16v, sv] using bj
  have bn : bk.ownBlock ≠ some ab := ne_step (w1 := bd) ⟨bi, bm⟩ zx a8
  refine kt_end rfl ⟨hx, aa⟩ (kt_step (rs := [18]) zy (one_mem ?_))
  intro bu bo _ bp bq bt br o_ ho_; obtain rfl := zE ho_
  have := bo.size
  have O := (((O.keepD a1 a6).keep0 a9).keepD bi a7).keep0 bo
  have bj := bj.keep0 bo
  have hb := grow_step0 hb bo
  have ap : Sl bp 53 bk := (zE ((br 11 _ 53 zy rfl rfl).1 rfl)).symm
  have aq : Sl bp 59 (cutS 6 lv j) := (br 17 _ 59 zy rfl rfl).2 rfl
  have ar := bj
  refine op_append slt115 (zC bq rfl ap) ar (zC bq rfl aq) (Src.ofRd Try.underlying115 zz ((O.cutO (k := j) zx).cast (n' := (E.drop j).length) (cs' := (E.drop j).flatMap cellsRE) (by rw [List.length_drop]) (dropRE zx).symm).rdw (one_sub hone (fun _ h => List.mem_of_mem_drop h))) (by unfold maxLen; omega) zx hb.size ?_
  intro au av ap aq aw
  have := aq.size
  have hx := (hx.keep0 bo).keepO ar aq zz
  have aa := (aa.keep0 bo).keep aq (fun hh => bn hh.symm)
  have hb := grow_stepO hb ar aq zx
  have ap : Own av w.heap.size 177 6 au (((0 + (E.take j).length) + 1) + (E.drop j).length) (((((E.take j)).flatMap cellsRE ++ [(.int .i64 n), W, (.int .u64 s), (.slice none 0 0), (.slice none 0 0), (.bool false)]) ++ (E.drop j).flatMap cellsRE)) := by simpa [u8v, u16v, sv] using ap
  refine kt_end rfl ⟨hx, aa⟩ ?_
  intro aB aw az av ax aC ay
  have ax := ax.trans ((by simp only [putsL_defers] : _ = _).trans A)
  have := aw.size
  have hx := hx.keep0 aw
  have ap := ap.keep0 aw
  have hb := grow_step0 hb aw
  have aB : Sl az 42 (ptr r 0) := (ay 0 _ 42 rfl rfl).2 rfl
  have aC : Sl az 60 au := (zE ((ay 18 _ 60 rfl rfl).1 rfl)).symm
  refine split_end (from_seq (tl := [_, _, _]) zz zy rfl (op_nil (zC av rfl aB) (zM fld117_0 (zA av rfl) ?_)))
  have hx_old := hx
  refine za (vs := [au]) (cs' := [au]) size115 (zA av rfl) (zC av rfl aC) ap.cl rfl (by simp only [yA, yB, yC, yD, ap.one]; try rfl) hx (zI rfl) rfl ?_
  intro ay hx au
  have := au.size
  have V := ((((V.keepT bh bi zz).keep0 bo).keepT ar aq zz).keep0 aw).keepX hx_old au zz
  have ap := ap.keepX hx_old au zz
  have hb := grown_trans hb au
  refine zB (o _ _ (zF fun _ o => zH (zD rfl (zB (o _ _ (wp_ret (ret1 rfl ax (zA av rfl) ⟨_, rfl, ?_⟩)))))))
  exact ⟨hb, rfl, j, _, W, z, hx, ap.cast (by simp; omega) (by simp [List.flatMap_append, cellsRE, newT]), V.cast (by simp) (by simp)⟩
 refine one_mem ?_
 intro aw ap _ au aq av ar o_ ho_; obtain rfl := zE ho_
 have := ap.size
 have V := V.keep0 ap
 have hb := grow_step0 hb ap
 have ax : Sl au 51 (.agg #[(.int .i64 n), W, (.int .u64 s), (.slice none 0 0), (.slice none 0 0), (.bool false)]) := (ar 9 _ 51 zy rfl rfl).2 rfl
 refine op_bslice (e := 177) (pv := [(0, (.agg #[(.int .i64 n), W, (.int .u64 s), (.slice none 0 0), (.slice none 0 0), (.bool false)]))]) (cs := [(.int .i64 n), W, (.int .u64 s), (.slice none 0 0), (.slice none 0 0), (.bool false)]) ⟨rfl, (zC aq rfl ax), trivial⟩ (by obtain ⟨_, _, _, rfl⟩ := V.sl; kernel_rfl) ?_
 intro aC aB aD aE az ay
 have := ay.size
 have hx := (hx.keep0 ap).keep0 ay
 have aa := (aa.keep0 ap).keep0 ay
 have hb := grow_step0 hb ay
 refine kt_end rfl ⟨hx, aa⟩ (kt_step (rs := [1]) zy (one_mem ?_))
 intro aH aF _ aI aK aG aJ o_ ho_; obtain rfl := zE ho_
 have := aF.size
 have O := ((O.keep0 ap).keep0 ay).keep0 aF
 have hb := grow_step0 hb aF
 refine op_bslice (e := 177) (pv := []) (cs := []) trivial zy ?_
 intro aP aM aQ aO aN aL
 have aR : lv.ownBlock ≠ some aM := fun hh => by have := (O.lt _ hh).2; omega
 have := aL.size
 have hx := (hx.keep0 aF).keep0 aL
 have aa := (aa.keep0 aF).keep0 aL
 have hb := grow_step0 hb aL
 refine kt_end rfl ⟨hx, aa⟩ (kt_step (rs := [8]) zy (one_mem ?_))
 intro aW aS _ aT aV aX aU o_ ho_; obtain rfl := zE ho_
 have := aS.size
 have O := (O.keep0 aL).keep0 aS
 have aN := aN.keep0 aS
 have hb := grow_step0 hb aS
 have aY : Sl aT 43 (.slice (some ⟨aM, 0, none⟩) 0 0) := (zE ((aU 1 _ 43 zy rfl rfl).1 rfl)).symm
 have aZ : Sl aT 49 (hiV lv j) := (aU 7 _ 49 zy rfl rfl).2 rfl
 have a0 := (Own.ofBx (base := w.heap.size) (sz := 6) (n := 0) aN rfl zz zx)
 refine op_append slt115 (zC aV rfl aY) a0 (zC aV rfl aZ) (Src.ofRd Try.underlying115 zz ((O.hiCut (k := j) zx).cast (n' := (E.take j).length) (cs' := (E.take j).flatMap cellsRE) (by rw [List.length_take]; omega) (takeRE zx).symm).rdw (one_sub hone (fun _ h => List.mem_of_mem_take h))) (by unfold maxLen; omega) zx hb.size ?_
 intro a3 a5 a2 a1 a4
 have a6 : DJ lv (.slice (some ⟨aM, 0, none⟩) 0 0) := fun k hk hg => by simp [Value.ownBlock] at hg; subst hg; exact aR hk
 have a7 : DJ lv a3 := DJ.step a4 (fun k hk => (O.lt k hk).2) a6
 have := a1.size
 have hx := (hx.keep0 aS).keep a1 (by simp [Value.ownBlock]; try omega)
 have aa := (aa.keep0 aS).keep a1 (by simp [Value.ownBlock]; try omega)
 have hb := grow_stepO hb a0 a1 zx
 have a2 : Own a5 w.heap.size 177 6 a3 (0 + (E.take j).length) (((E.take j)).flatMap cellsRE) := by simpa [u8v, u16v, sv] using a2
 have a8 : a3.ownBlock ≠ some ab := ne_step (v := (Value.slice (some ⟨aM, 0, none⟩) 0 0)) (w1 := aW) ⟨a1, a4⟩ zx (by simp [Value.ownBlock]; try omega)
 refine kt_end rfl ⟨hx, aa⟩ (kt_step (rs := [11]) zy (one_mem ?_))
 intro bd a9 _ bb bc be ba o_ ho_; obtain rfl := zE ho_
 have := a9.size
 have V := (((((V.keep0 ay).keep0 aF).keep0 aL).keep0 aS).keepT a0 a1 zz).keep0 a9
 have az := ((((az.keep0 aF).keep0 aL).keep0 aS).keep a1 (by simp [Value.ownBlock]; try omega)).keep0 a9
 have a2 := a2.keep0 a9
 have hb := grow_step0 hb a9
 have bf : Sl bb 50 a3 := (zE ((ba 8 _ 50 zy rfl rfl).1 rfl)).symm
 have bg : Sl bb 52 (.slice (some ⟨aB, 0, none⟩) 1 1) := (zE ((ba 10 _ 52 zy rfl rfl).1 rfl)).symm
 have bh := a2
 refine op_append slt115 (zC bc rfl bf) bh (zC bc rfl bg) (Src.ofRd Try.underlying115 zz (RdC.ofBx (sz := 6) (n := 1) az rfl zz) (by simp only [yA, yB, yC, yD, V.one]; try rfl)) (by unfold maxLen; omega) zx hb.size ?_
 intro bk bm bj bi bl
 have := bi.size
 have hx := (hx.keep0 a9).keepO bh bi zz
 have aa := (aa.keep0 a9).keep bi (fun hh => a8 hh.symm)
 have hb := grow_stepO hb bh bi zx
 have bj : Own bm w.heap.size 177 6 bk ((0 + (E.take j).length) + 1) ((((E.take j)).flatMap cellsRE ++ [(.int .i64 n), W, (.int .u64 s), (.slice none 0 0), (.slice none 0 0), (.bool false)])) := by simpa [u8v, u16v, sv] using bj
 have bn : bk.ownBlock ≠ some ab := ne_step (w1 := bd) ⟨bi, bl⟩ zx a8
 refine kt_end rfl ⟨hx, aa⟩ (kt_step (rs := [18]) zy (one_mem ?_))
 intro bu bo _ br bp bt bq o_ ho_; obtain rfl := zE ho_
 have := bo.size
 have O := (((O.keepD a1 a6).keep0 a9).keepD bi a7).keep0 bo
 have bj := bj.keep0 bo
 have hb := grow_step0 hb bo
 have a : Sl br 53 bk := (zE ((bq 11 _ 53 zy rfl rfl).1 rfl)).symm
 have c : Sl br 59 (cutS 6 lv j) := (bq 17 _ 59 zy rfl rfl).2 rfl
 have d := bj
 refine op_append slt115 (zC bp rfl a) d (zC bp rfl c) (Src.ofRd Try.underlying115 zz ((O.cutO (k := j) zx).cast (n' := (E.drop j).length) (cs' := (E.drop j).flatMap cellsRE) (by rw [List.length_drop]) (dropRE zx).symm).rdw (one_sub hone (fun _ h => List.mem_of_mem_drop h))) (by unfold maxLen; omega) zx hb.size ?_
 intro f g a c p
 have := c.size
 have hx := (hx.keep0 bo).keepO d c zz
 have aa := (aa.keep0 bo).keep c (fun hh => bn hh.symm)
 have hb := grow_stepO hb d c zx
 have a : Own g w.heap.size 177 6 f (((0 + (E.take j).length) + 1) + (E.drop j).length) (((((E.take j)).flatMap cellsRE ++ [(.int .i64 n), W, (.int .u64 s), (.slice none 0 0), (.slice none 0 0), (.bool false)]) ++ (E.drop j).flatMap cellsRE)) := by simpa [u8v, u16v, sv] using a
 refine kt_end rfl ⟨hx, aa⟩ ?_
 intro y g u p t B x
 have t := t.trans ((by simp only [putsL_defers] : _ = _).trans A)
 have := g.size
 have hx := hx.keep0 g
 have a := a.keep0 g
 have hb := grow_step0 hb g
 have y : Sl u 42 (ptr r 0) := (x 0 _ 42 rfl rfl).2 rfl
 have A : Sl u 60 f := (zE ((x 18 _ 60 rfl rfl).1 rfl)).symm
 refine split_end (from_seq (tl := [_, _, _]) zz zy rfl (op_nil (zC p rfl y) (zM fld117_0 (zA p rfl) ?_)))
 have hx_old := hx
 refine za (vs := [f]) (cs' := [f]) size115 (zA p rfl) (zC p rfl A) a.cl rfl (by simp only [yA, yB, yC, yD, a.one]; try rfl) hx (zI rfl) rfl ?_
 intro u hx f
 have := f.size
 have V := ((((V.keepT bh bi zz).keep0 bo).keepT d c zz).keep0 g).keepX hx_old f zz
 have a := a.keepX hx_old f zz
 have hb := grown_trans hb f
 refine zB (o _ _ (zF fun _ o => zH (zD rfl (zB (o _ _ (wp_ret (ret1 rfl t (zA p rfl) ⟨_, rfl, ?_⟩)))))))
 exact ⟨hb, rfl, j, _, W, z, hx, a.cast (by simp; omega) (by simp [List.flatMap_append, cellsRE, newT]), V.cast (by simp) (by simp)⟩

theorem Enter_old9 {E : List RE} {r base : Nat} {lv : Value} {n : Int} {j : Nat} {tv : Value} {s : Int} {w : World} (hbase : base ≤ w.heap.size) (hx : Bx w r 117 [lv]) (O : Own w base 177 6 lv E.length (E.flatMap cellsRE)) (hE9 : E.length ≤ 100000) (hj : j < E.length) (hn : (E.getD j default).1.1 = n) (hu : ∀ q, q < E.length → (E.getD q default).1.1 = n → q = j) : Ret Try.prog 63 #[(ptr r 0), (.int .i64 n), tv, (.int .u64 s)] w (fun v' w' => Below w.heap.size w w' ∧ v' = .int .i64 18) := by
 have hb := Below.refl w.heap.size w
 refine enter (N := 63) Try.func63 rfl rfl (by simp) fun a hN hd hA => ?_
 have b : a.tmps.getD 0 undef = (ptr r 0) := hA 0 (by simp)
 have c : a.tmps.getD 1 undef = (.int .i64 n) := hA 1 (by simp)
 clear hA
 refine zF fun _ a => zH (zD rfl (zB ?_))
 refine a _ _ (zF fun _ a => zF fun _ d => zH (zG (zC hN rfl b) (zG (zC hN rfl c) (zj ok110 (Find_hit9 (j := j) zx hx O zx hj hn hu) ⟨(zA hN rfl), ⟨(zA hN rfl), trivial⟩⟩ ?_))))
 rintro _ b ⟨a, rfl⟩
 have a := zQ a
 obtain ⟨hb, _⟩ := yE hb a
 refine op_geq (zA hN rfl) rfl (fun a => ?_) (fun a => ?_)
 ·
  refine zB (d _ _ (wp_cond_true (zA hN rfl) (zF fun _ d => zH (zD rfl (zB (d _ _ (wp_ret (zO ( (ret1 rfl hd (zA hN rfl) ⟨_, rfl, ?_⟩))))))))))
  exact ⟨hb, rfl⟩
 exact absurd zx a

theorem Leave_hit9 {E : List RE} {r base : Nat} {lv : Value} {n : Int} {j : Nat} {w : World} (hbase : base ≤ w.heap.size) (hx : Bx w r 117 [lv]) (O : Own w base 177 6 lv E.length (E.flatMap cellsRE)) (hE9 : E.length ≤ 100000) (hj : j < E.length) (hn : (E.getD j default).1.1 = n) (hu : ∀ q, q < E.length → (E.getD q default).1.1 = n → q = j) (hone : (E.flatMap cellsRE).all Value.oneCell' = true)  : Ret Try.prog 66 #[(ptr r 0), (.int .i64 n)] w (fun v' w' => w.grownBy w' (some r) ∧ v' = .int .i64 0 ∧ ∃ lv', Bx w' r 117 [lv'] ∧ Own w' w.heap.size 177 6 lv' (E.length - 1) ((E.take j ++ E.drop (j + 1)).flatMap cellsRE)) := by
 have hi_r := hx.lt
 have hb := grown_refl w (some r)
 refine enter (N := 30) Try.func66 rfl rfl (by simp) fun a hN hd hA => ?_
 have b : a.tmps.getD 0 undef = (ptr r 0) := hA 0 (by simp)
 have c : a.tmps.getD 1 undef = (.int .i64 n) := hA 1 (by simp)
 clear hA
 refine zF fun _ d => zH (zD rfl ?_)
 refine zB (d _ _ (zF fun _ d => zH (zG (zC hN rfl b) (zG (zC hN rfl c) (zj ok110 (Find_hit9 (j := j) zx hx O zx hj hn hu) ⟨(zA hN rfl), ⟨(zA hN rfl), trivial⟩⟩ ?_)))))
 rintro _ g ⟨f, rfl⟩
 have f := zQ f
 have := f.size
 have hx := hx.keep0 f
 have O := O.keep0 f
 have hb := grow_step0 hb f
 refine zD (zA hN rfl) (zB (d _ _ (zF fun _ d => zF fun _ o => zH (zG (zA hN rfl) (op_lss (zA hN rfl) rfl (fun l => ?_) (fun l => ?_))))))
 ·
  exact absurd l zx
 refine zB (o _ _ (wp_cond_false (zA hN rfl) (wp_skip (d _ _ (zF fun _ d => ?_)))))
 have p : (E.take j).length = j := by rw [List.length_take]; omega
 have s : (E.drop (j + 1)).length = E.length - (j + 1) := List.length_drop
 obtain ⟨u, x, v, t⟩ := O.cap
 refine reg_split (hd := [_, _, _, _, _, _, _, _, _, _, _, _, _, _, _, _, _]) (tl := _) 17 mixed zy rfl rfl (any_tree (φ := phiV [(fun uz => uz = (ptr r 0)), (fun _ => True), (fun uz => uz = (ptr r 0)), (fun uz => uz = (ptr r 0)), (fun uz => uz = (ptr r 0)), (fun uz => uz = lv), (fun uz => uz = (.int .i64 ((j : Nat) : Int))), (fun uz => uz = (hiV lv j)), (fun _ => True), (fun uz => uz = (ptr r 0)), (fun uz => uz = (ptr r 0)), (fun uz => uz = (ptr r 0)), (fun uz => uz = lv), (fun uz => uz = (.int .i64 ((j : Nat) : Int))), (fun uz => uz = (.int .i64 ((j + 1 : Nat) : Int))), (fun uz => uz = (cutS 6 lv (j + 1))), (fun _ => True)]) (G := fun w' => Bx w' r 117 [lv]) [1, 8, 16] zy zy zy zy zy hN (fun g y E h => h.keep0 E) hx (ObRs9.cons ?_ (ObRs9.pass rfl (ObRs9.cons ?_ (ObRs9.cons ?_ (ObRs9.cons ?_ (ObRs9.cons ?_ (ObRs9.cons ?_ (ObRs9.cons ?_ (ObRs9.pass rfl (ObRs9.cons ?_ (ObRs9.cons ?_ (ObRs9.cons ?_ (ObRs9.cons ?_ (ObRs9.cons ?_ (ObRs9.cons ?_ (ObRs9.cons ?_ (ObRs9.pass rfl (ObRs9.nil)))))))))))))))))) (by simp only [putsL_defers]) ?_)
 ·
  intro eA aA wA hNA hGA hbsA hdpA
  have z := (hbsA 0 rfl).trans (zL hN rfl b)
  refine zG (zC hNA rfl z) ?_
  exact obT_end rfl rfl
 ·
  intro eA aA wA hNA hGA hbsA hdpA
  have z := (hbsA 0 rfl).trans (zL hN rfl b)
  refine zG (zC hNA rfl z) ?_
  exact obT_end rfl rfl
 ·
  intro eA aA wA hNA hGA hbsA hdpA
  have A : Sl aA 13 (ptr r 0) := (hdpA 2 _ 13 zy rfl rfl).2 rfl
  refine op_nil (zC hNA rfl A) ?_
  exact obT_end rfl rfl
 ·
  intro eA aA wA hNA hGA hbsA hdpA
  have A : Sl aA 14 (ptr r 0) := (hdpA 3 _ 14 zy rfl rfl).2 rfl
  refine zM fld117_0 (zC hNA rfl A) ?_
  exact obT_end rfl rfl
 ·
  intro eA aA wA hNA hGA hbsA hdpA
  have A : Sl aA 15 (ptr r 0) := (hdpA 4 _ 15 zy rfl rfl).2 rfl
  refine zN one115 (zC hNA rfl A) (hGA.cell rfl) ?_
  exact obT_end rfl rfl
 ·
  intro eA aA wA hNA hGA hbsA hdpA
  have A := (hbsA 5 rfl).trans (zU hN rfl)
  refine zG (zC hNA rfl A) ?_
  exact obT_end rfl rfl
 ·
  intro eA aA wA hNA hGA hbsA hdpA
  have B : Sl aA 16 lv := (hdpA 5 _ 16 zy rfl rfl).2 rfl
  have C : Sl aA 17 (.int .i64 ((j : Nat) : Int)) := (hdpA 6 _ 17 zy rfl rfl).2 rfl
  refine op_slice_hiC (m := j) slt115 (zC hNA rfl B) t (zC hNA rfl C) zx zx ?_
  exact obT_end rfl rfl
 ·
  intro eA aA wA hNA hGA hbsA hdpA
  have z := (hbsA 0 rfl).trans (zL hN rfl b)
  refine zG (zC hNA rfl z) ?_
  exact obT_end rfl rfl
 ·
  intro eA aA wA hNA hGA hbsA hdpA
  have z : Sl aA 20 (ptr r 0) := (hdpA 9 _ 20 zy rfl rfl).2 rfl
  refine op_nil (zC hNA rfl z) ?_
  exact obT_end rfl rfl
 ·
  intro eA aA wA hNA hGA hbsA hdpA
  have z : Sl aA 21 (ptr r 0) := (hdpA 10 _ 21 zy rfl rfl).2 rfl
  refine zM fld117_0 (zC hNA rfl z) ?_
  exact obT_end rfl rfl
 ·
  intro eA aA wA hNA hGA hbsA hdpA
  have z : Sl aA 22 (ptr r 0) := (hdpA 11 _ 22 zy rfl rfl).2 rfl
  refine zN one115 (zC hNA rfl z) (hGA.cell rfl) ?_
  exact obT_end rfl rfl
 ·
  intro eA aA wA hNA hGA hbsA hdpA
  have A := (hbsA 5 rfl).trans (zU hN rfl)
  refine zG (zC hNA rfl A) ?_
  exact obT_end rfl rfl
 ·
  intro eA aA wA hNA hGA hbsA hdpA
  have z : Sl aA 24 (.int .i64 ((j : Nat) : Int)) := (hdpA 13 _ 24 zy rfl rfl).2 rfl
  refine op_add (r := ((j + 1 : Nat) : Int)) (zC hNA rfl z) rfl ((add64 zx).trans zx) ?_
  exact obT_end rfl rfl
 ·
  intro eA aA wA hNA hGA hbsA hdpA
  have z : Sl aA 23 lv := (hdpA 12 _ 23 zy rfl rfl).2 rfl
  have A : Sl aA 25 (.int .i64 ((j + 1 : Nat) : Int)) := (hdpA 14 _ 25 zy rfl rfl).2 rfl
  refine op_slice_cutS (k := (j + 1)) slt115 (zC hNA rfl z) O (zC hNA rfl A) zx zx ?_
  exact obT_end rfl rfl
 refine kt_step (rs := [1]) zy (one_mem ?_)
 intro B z _ D A F C o_ ho_; obtain rfl := zE ho_
 have := z.size
 have O := O.keep0 z
 have hb := grow_step0 hb z
 refine op_bslice (e := 177) (pv := []) (cs := []) trivial zy ?_
 intro K I M L J H
 have P : lv.ownBlock ≠ some I := fun hh => by have := (O.lt _ hh).2; omega
 have := H.size
 have hx := (hx.keep0 z).keep0 H
 have hb := grow_step0 hb H
 refine kt_end rfl hx (kt_step (rs := [8]) zy (one_mem ?_))
 intro V Q _ R T U S o_ ho_; obtain rfl := zE ho_
 have := Q.size
 have O := (O.keep0 H).keep0 Q
 have J := J.keep0 Q
 have hb := grow_step0 hb Q
 have W : Sl R 12 (.slice (some ⟨I, 0, none⟩) 0 0) := (zE ((S 1 _ 12 zy rfl rfl).1 rfl)).symm
 have X : Sl R 18 (hiV lv j) := (S 7 _ 18 zy rfl rfl).2 rfl
 have Y := (Own.ofBx (base := w.heap.size) (sz := 6) (n := 0) J rfl zz zx)
 refine op_append slt115 (zC T rfl W) Y (zC T rfl X) (Src.ofRd Try.underlying115 zz ((O.hiCut (k := j) zx).cast (n' := (E.take j).length) (cs' := (E.take j).flatMap cellsRE) (by rw [List.length_take]; omega) (takeRE zx).symm).rdw (one_sub hone (fun _ h => List.mem_of_mem_take h))) (by unfold maxLen; omega) zx hb.size ?_
 intro ab ac Z aa ad
 have ae : DJ lv (.slice (some ⟨I, 0, none⟩) 0 0) := fun k hk hg => by simp [Value.ownBlock] at hg; subst hg; exact P hk
 have := aa.size
 have hx := (hx.keep0 Q).keep aa (by simp [Value.ownBlock]; try omega)
 have hb := grow_stepO hb Y aa zx
 have Z : Own ac w.heap.size 177 6 ab (0 + (E.take j).length) (((E.take j)).flatMap cellsRE) := by simpa [u8v, u16v, sv] using Z
 refine kt_end rfl hx (kt_step (rs := [16]) zy (one_mem ?_))
 intro ak af _ ah ai aj ag o_ ho_; obtain rfl := zE ho_
 have := af.size
 have O := (O.keepD aa ae).keep0 af
 have Z := Z.keep0 af
 have hb := grow_step0 hb af
 have a : Sl ah 19 ab := (zE ((ag 8 _ 19 zy rfl rfl).1 rfl)).symm
 have b : Sl ah 26 (cutS 6 lv (j + 1)) := (ag 15 _ 26 zy rfl rfl).2 rfl
 have c := Z
 refine op_append slt115 (zC ai rfl a) c (zC ai rfl b) (Src.ofRd Try.underlying115 zz ((O.cutO (k := (j + 1)) zx).cast (n' := (E.drop (j + 1)).length) (cs' := (E.drop (j + 1)).flatMap cellsRE) (by rw [List.length_drop]) (dropRE zx).symm).rdw (one_sub hone (fun _ h => List.mem_of_mem_drop h))) (by unfold maxLen; omega) zx hb.size ?_
 intro b g a f l
 have := f.size
 have hx := (hx.keep0 af).keepO c f zz
 have hb := grow_stepO hb c f zx
 have a : Own g w.heap.size 177 6 b ((0 + (E.take j).length) + (E.drop (j + 1)).length) ((((E.take j) ++ (E.drop (j + 1)))).flatMap cellsRE) := by simpa [u8v, u16v, sv] using a
 refine kt_end rfl hx ?_
 intro s f l c g p o
 have g := g.trans ((by simp only [putsL_defers] : _ = _).trans hd)
 have := f.size
 have hx := hx.keep0 f
 have a := a.keep0 f
 have hb := grow_step0 hb f
 have f : Sl l 11 (ptr r 0) := (o 0 _ 11 rfl rfl).2 rfl
 have p : Sl l 27 b := (zE ((o 16 _ 27 rfl rfl).1 rfl)).symm
 refine split_end (from_seq (tl := [_, _, _]) zz zy rfl (op_nil (zC c rfl f) (zM fld117_0 (zA c rfl) ?_)))
 have hx_old := hx
 refine za (vs := [b]) (cs' := [b]) size115 (zA c rfl) (zC c rfl p) a.cl rfl (by simp only [yA, yB, yC, yD, a.one]; try rfl) hx (zI rfl) rfl ?_
 intro f hx b
 have := b.size
 have a := a.keepX hx_old b zz
 have hb := grown_trans hb b
 refine zB (d _ _ (zF fun _ d => zH (zD rfl (zB (d _ _ (wp_ret (ret1 rfl g (zA c rfl) ⟨_, rfl, ?_⟩)))))))
 exact ⟨hb, rfl, _, hx, a.cast (by simp; omega) (by simp [List.flatMap_append])⟩

theorem Leave_miss9 {E : List RE} {r base : Nat} {lv : Value} {n : Int} {w : World} (hbase : base ≤ w.heap.size) (hx : Bx w r 117 [lv]) (O : Own w base 177 6 lv E.length (E.flatMap cellsRE)) (hE9 : E.length ≤ 100000) (hm : ∀ q, q < E.length → (E.getD q default).1.1 ≠ n)  : Ret Try.prog 66 #[(ptr r 0), (.int .i64 n)] w (fun v' w' => Below w.heap.size w w' ∧ v' = .int .i64 18) := by
 have hb := Below.refl w.heap.size w
 refine enter (N := 30) Try.func66 rfl rfl (by simp) fun a hN hd hA => ?_
 have b : a.tmps.getD 0 undef = (ptr r 0) := hA 0 (by simp)
 have c : a.tmps.getD 1 undef = (.int .i64 n) := hA 1 (by simp)
 clear hA
 refine zF fun _ a => zH (zD rfl ?_)
 refine zB (a _ _ (zF fun _ a => zH (zG (zC hN rfl b) (zG (zC hN rfl c) (zj ok110 (Find_miss9 zx hx O zx hm) ⟨(zA hN rfl), ⟨(zA hN rfl), trivial⟩⟩ ?_)))))
 rintro _ c ⟨b, rfl⟩
 have b := zQ b
 obtain ⟨hb, _⟩ := yE hb b
 refine zD (zA hN rfl) (zB (a _ _ (zF fun _ a => ?_)))
 refine zF fun _ a => zH (zG (zA hN rfl) (op_bin (v := .bool true) (zA hN rfl) rfl (by rw [binOp_lss]; rfl) (zB (a _ _ (wp_cond_true (zA hN rfl) (zF fun _ a => zH (zD rfl (zB (a _ _ (wp_ret (zO ( (ret1 rfl hd (zA hN rfl) ⟨_, rfl, ?_⟩)))))))))))))
 exact ⟨hb, rfl⟩

end Go.Proofs.Ytmhdbphpmgjpcaa

namespace Go.Gx
open Go.RowKit
section
variable {P : Program} {ol : List Oper} {Q : Exit → Act → World → Prop} {E : Type} {Φ : E → Nat → Value → Prop} {C : E → Nat → World → Prop} {ch : Chain} {a0 : Act} {N : Nat}
end

section
variable {P : Program} {ol : List Oper} {Q : Exit → Act → World → Prop} {ops : List Nat} {φ : Nat → Value → Prop} {G : Nat → World → Prop} {a0 : Act} {N : Nat}
def PhK (ops : List Nat) (φ : Nat → Value → Prop) (e : List Value) (j : Nat) (u : Value) : Prop := (∀ c : Nat, ops[c]? = some j → e[c]? = some u) ∧ (ops.contains j = false → φ j u)
theorem PhK.mono {e : List Value} {v : Value} {j : Nat} {u : Value} (h : PhK ops φ e j u) : PhK ops φ (e ++ [v]) j u :=
  ⟨fun c hc => by have h1 := h.1 c hc; have hl := (List.getElem?_eq_some_iff.1 h1).1; rw [List.getElem?_append_left hl]; exact h1, h.2⟩
theorem PhK.light {j : Nat} {e : List Value} {u : Value} (hh : ops.contains j = false) (h : φ j u) : PhK ops φ e j u :=
  ⟨fun c hc => by have : ops.contains j = true := by simpa using List.mem_of_getElem? hc
                  exact absurd (this.symm.trans hh) (by decide), fun _ => h⟩
def KK (P : Program) (ol : List Oper) (ops : List Nat) (φ : Nat → Value → Prop) (G : Nat → World → Prop) (a0 : Act) (N : Nat) (Q : Exit → Act → World → Prop) : List Nat → List Value → World → Prop
  | [], e, w => ∀ w1, w.grownBy w1 none → ∀ a', a'.tmps.size = N → a'.defers = a0.defers → (∀ t, (ol.all fun o => o.dst != some t) = true → a'.tmps.getD t undef = a0.tmps.getD t undef) →
      (∀ j oj d, ol[j]? = some oj → oj.dst = some d → PhK ops φ e j (a'.tmps.getD d undef)) → Q .normal (putsL a' []) w1
  | i :: r, e, w => ∀ w1, w.grownBy w1 none → G e.length w1 → ∀ a, a.tmps.size = N → (∀ t, safeB ol i t = true → a.tmps.getD t undef = a0.tmps.getD t undef) → (∀ j oj d, depB ol i j = true → ol[j]? = some oj → oj.dst = some d → PhK ops φ e j (a.tmps.getD d undef)) →
      ∀ o, ol[i]? = some o → wpList P ol.toArray (fun ex a' w' => ex = .normal ∧ ∃ e', (∀ j u, PhK ops φ e j u → PhK ops φ e' j u) ∧ ((o.dst = none ∧ a' = a) ∨ ∃ d v, o.dst = some d ∧ a' = putsL a [(d, v)] ∧ PhK ops φ e' i v) ∧ (e'.length = e.length + 1 ∧ KK P ol ops φ G a0 N Q r e' w' ∧ G (e.length + 1) w')) [o] (putsL a []) w1
theorem KK.stable : ∀ {rs : List Nat} {e : List Value} {w w2 : World}, KK P ol ops φ G a0 N Q rs e w → w.grownBy w2 none → KK P ol ops φ G a0 N Q rs e w2
  | [], _, _, _, h, E => fun w1 E1 => h w1 (grown_trans E E1)
  | _ :: _, _, _, _, h, E => fun w1 E1 => h w1 (grown_trans E E1)
def ObK (P : Program) (ol : List Oper) (ops : List Nat) (φ : Nat → Value → Prop) (G : Nat → World → Prop) (a0 : Act) (N : Nat) (i : Nat) (o : Oper) : Prop :=
  ∀ (e : List Value) (a : Act) (w : World), a.tmps.size = N → (∀ m k, ops[m]? = some k → depB ol k i = true → e.length ≤ m) → G e.length w → (∀ t, safeB ol i t = true → a.tmps.getD t undef = a0.tmps.getD t undef) → (∀ j oj d, depB ol i j = true → ol[j]? = some oj → oj.dst = some d → PhK ops φ e j (a.tmps.getD d undef)) →
    wpList P ol.toArray (fun ex a' w' => ex = .normal ∧ (∃ d v, o.dst = some d ∧ a' = putsL a [(d, v)] ∧ PhK ops φ e i v) ∧ w.grownBy w' none) [o] (putsL a []) w
def ObKs (P : Program) (ol : List Oper) (ops : List Nat) (φ : Nat → Value → Prop) (G : Nat → World → Prop) (a0 : Act) (N : Nat) : Nat → List Oper → Prop
  | _, [] => True
  | i, o :: r => (ops.contains i = false → ObK P ol ops φ G a0 N i o) ∧ ObKs P ol ops φ G a0 N (i + 1) r
theorem ObKs.nil {i : Nat} : ObKs P ol ops φ G a0 N i [] := trivial
theorem ObKs.cons {i : Nat} {o : Oper} {r : List Oper} (h : ObK P ol ops φ G a0 N i o) (h' : ObKs P ol ops φ G a0 N (i + 1) r) : ObKs P ol ops φ G a0 N i (o :: r) := ⟨fun _ => h, h'⟩
theorem ObKs.pass {i : Nat} {o : Oper} {r : List Oper} (hh : ops.contains i = true) (h' : ObKs P ol ops φ G a0 N (i + 1) r) : ObKs P ol ops φ G a0 N i (o :: r) := ⟨fun h => absurd (hh.symm.trans h) (by decide), h'⟩
theorem ObKs.getx : ∀ {l : List Oper} {i : Nat}, ObKs P ol ops φ G a0 N i l → ∀ j o, l[j]? = some o → ops.contains (i + j) = false → ObK P ol ops φ G a0 N (i + j) o
  | [], _, _, j, o, h, _ => by simp at h
  | o' :: r, i, h, 0, o, hj, hs => by simp at hj; subst hj; exact h.1 hs
  | o' :: r, i, h, j + 1, o, hj, hs => by
    have := ObKs.getx h.2 j o (by simpa using hj) (by rwa [show i + 1 + j = i + (j + 1) by omega])
    rwa [show i + 1 + j = i + (j + 1) by omega] at this
end
end Go.Gx

namespace Go.Gx
open Go.RowKit
section
variable {P : Program} {ol : List Oper} {Q : Exit → Act → World → Prop} {bigs : List Nat} {φ : Nat → Value → Prop} {G : List Nat → World → Prop} {a0 : Act} {N : Nat}
def KIk (P : Program) (ol : List Oper) (bigs : List Nat) (φ : Nat → Value → Prop) (G : List Nat → World → Prop) (a0 : Act) (N : Nat) (e : List (Nat × Value)) (todo : List Nat) (i : Nat) (w : World) (K : Value → World → Prop) : Prop :=
  ∀ w1, w.grownBy w1 none → G todo w1 → ∀ a, a.tmps.size = N → (∀ t, safeB ol i t = true → a.tmps.getD t undef = a0.tmps.getD t undef) → (∀ j oj d, depB ol i j = true → ol[j]? = some oj → oj.dst = some d → PhT bigs φ e j (a.tmps.getD d undef)) →
    ∀ o, ol[i]? = some o → wpList P ol.toArray (fun ex a' w' => ex = .normal ∧ ∃ v, ((o.dst = none ∧ a' = a) ∨ ∃ d, o.dst = some d ∧ a' = putsL a [(d, v)]) ∧ K v w' ∧ G (todo.erase i) w') [o] (putsL a []) w1
def KTk (P : Program) (ol : List Oper) (bigs : List Nat) (φ : Nat → Value → Prop) (G : List Nat → World → Prop) (a0 : Act) (N : Nat) (Q : Exit → Act → World → Prop) : Nat → List Nat → List (Nat × Value) → World → Prop
  | 0, _, e, w => ∀ w1, w.grownBy w1 none → ∀ a', a'.tmps.size = N → a'.defers = a0.defers → (∀ t, (ol.all fun o => o.dst != some t) = true → a'.tmps.getD t undef = a0.tmps.getD t undef) →
      (∀ j oj d, ol[j]? = some oj → oj.dst = some d → PhT bigs φ e j (a'.tmps.getD d undef)) → Q .normal (putsL a' []) w1
  | n + 1, todo, e, w => ∀ i ∈ readyT ol todo, KIk P ol bigs φ G a0 N e todo i w fun v w' => KTk P ol bigs φ G a0 N Q n (todo.erase i) ((i, v) :: e) w'
theorem KTk.stable : ∀ {n : Nat} {todo : List Nat} {e : List (Nat × Value)} {w w2 : World}, KTk P ol bigs φ G a0 N Q n todo e w → w.grownBy w2 none → KTk P ol bigs φ G a0 N Q n todo e w2
  | 0, _, _, _, _, h, E => fun w1 E1 => h w1 (grown_trans E E1)
  | _ + 1, _, _, _, _, h, E => fun i hi w1 E1 => h i hi w1 (grown_trans E E1)
def ObQ9 (P : Program) (ol : List Oper) (bigs : List Nat) (φ : Nat → Value → Prop) (G : List Nat → World → Prop) (a0 : Act) (N : Nat) (i : Nat) (o : Oper) : Prop :=
  ∀ (e : List (Nat × Value)) (todo : List Nat) (a : Act) (w : World), a.tmps.size = N → (∀ j, bigs.contains j = true → depB ol j i = true → j ∈ todo) → G todo w → (∀ t, safeB ol i t = true → a.tmps.getD t undef = a0.tmps.getD t undef) → (∀ j oj d, depB ol i j = true → ol[j]? = some oj → oj.dst = some d → PhT bigs φ e j (a.tmps.getD d undef)) →
    wpList P ol.toArray (fun ex a' w' => ex = .normal ∧ (∃ d v, o.dst = some d ∧ a' = putsL a [(d, v)] ∧ φ i v) ∧ w.grownBy w' none) [o] (putsL a []) w
def ObRk9 (P : Program) (ol : List Oper) (bigs : List Nat) (φ : Nat → Value → Prop) (G : List Nat → World → Prop) (a0 : Act) (N : Nat) : Nat → List Oper → Prop
  | _, [] => True
  | i, o :: r => (bigs.contains i = false → ObQ9 P ol bigs φ G a0 N i o) ∧ ObRk9 P ol bigs φ G a0 N (i + 1) r
theorem ObRk9.nil {i : Nat} : ObRk9 P ol bigs φ G a0 N i [] := trivial
theorem ObRk9.cons {i : Nat} {o : Oper} {r : List Oper} (h : ObQ9 P ol bigs φ G a0 N i o) (h' : ObRk9 P ol bigs φ G a0 N (i + 1) r) : ObRk9 P ol bigs φ G a0 N i (o :: r) := ⟨fun _ => h, h'⟩
theorem ObRk9.pass {i : Nat} {o : Oper} {r : List Oper} (hh : bigs.contains i = true) (h' : ObRk9 P ol bigs φ G a0 N (i + 1) r) : ObRk9 P ol bigs φ G a0 N i (o :: r) := ⟨fun h => absurd (hh.symm.trans h) (by decide), h'⟩
theorem ObRk9.getx : ∀ {l : List Oper} {i : Nat}, ObRk9 P ol bigs φ G a0 N i l → ∀ j o, l[j]? = some o → bigs.contains (i + j) = false → ObQ9 P ol bigs φ G a0 N (i + j) o
  | [], _, _, j, o, h, _ => by simp at h
  | o' :: r, i, h, 0, o, hj, hs => by simp at hj; subst hj; exact h.1 hs
  | o' :: r, i, h, j + 1, o, hj, hs => by
    have := ObRk9.getx h.2 j o (by simpa using hj) (by rwa [show i + 1 + j = i + (j + 1) by omega])
    rwa [show i + 1 + j = i + (j + 1) by omega] at this
theorem region_treek_steps (hlex : lexB' ol = true) (hdn : dstNB ol N = true) (hdst : dstsB ol = true) (hbl : (bigs.all fun i => Nat.blt i ol.length) = true)
    (hG : ∀ t w1 w2, w1.grownBy w2 none → G t w1 → G t w2) (obL : ∀ i o, ol[i]? = some o → bigs.contains i = false → ObQ9 P ol bigs φ G a0 N i o) :
    ∀ (fuel : Nat) (listed : Array Bool) (todo : List Nat) (e : List (Nat × Value)) (a : Act) (w : World), TInv ol bigs φ a0 N listed todo e a → KTk P ol bigs φ G a0 N Q todo.length todo e w → G todo w → (List.range ol.length).countP (fun i => !listed.getD i true) ≤ fuel → wpAny P .any ol.toArray Q fuel listed a w := by
  have done : ∀ (listed : Array Bool) (todo : List Nat) (e : List (Nat × Value)) (a : Act) (w : World), TInv ol bigs φ a0 N listed todo e a → KTk P ol bigs φ G a0 N Q todo.length todo e w → Region.ready .any ol.toArray listed = [] → Q .normal a w := by
    intro listed todo ee a w I hk hr
    have hall : ∀ i, i < ol.length → listed.getD i true = true := by
      intro i
      induction i using Nat.strongRecOn with
      | _ i ih =>
        intro hi
        by_cases hq : listed.getD i true = true
        · exact hq
        · exfalso
          have hm : i ∈ Region.ready .any ol.toArray listed := by
            rw [mem_ready]
            refine ⟨by simpa using hq, ol[i], by simp [hi], fun e he hb => ?_⟩
            have h1 := List.all_eq_true.1 hlex i (by simp [hi])
            simp only [List.getElem?_eq_getElem hi, Array.all_eq_true_iff_forall_mem, Bool.or_eq_true, Bool.not_eq_true', Nat.blt_eq] at h1
            have h2 := (h1 e he).resolve_left (by simp [hb])
            exact getD_true_lt (ih e.on h2 (by omega)) (by rw [I.lsize]; omega)
          rw [hr] at hm
          cases hm
    have ht : todo = [] := by
      rw [List.eq_nil_iff_forall_not_mem]
      intro i hi
      obtain ⟨hb, hl⟩ := (I.todos i).1 hi
      have := List.all_eq_true.1 hbl i hb
      rw [hall i (by simpa [Nat.blt_eq] using this)] at hl
      cases hl
    subst ht
    exact hk w (grown_refl _ _) a I.size I.defers (fun t ht => I.base t fun j o hj _ hd' => by
      have := List.all_eq_true.1 ht o (List.mem_of_getElem? hj)
      simp [hd'] at this) (fun j oj d hj hd' => I.phi j oj d hj (hall j (List.getElem?_eq_some_iff.1 hj).1) hd')
  intro fuel
  induction fuel with
  | zero =>
    intro listed todo ee a w I hk hg hcnt
    have hr : Region.ready .any ol.toArray listed = [] := by
      rw [List.eq_nil_iff_forall_not_mem]
      intro i hi
      obtain ⟨h1, o, ho, _⟩ := mem_ready.1 hi
      have hlt : i < ol.length := by simpa using (Array.getElem?_eq_some_iff.1 ho).1
      have hz : (List.range ol.length).countP (fun i => !listed.getD i true) = 0 := by omega
      rw [List.countP_eq_zero] at hz
      exact hz i (by simp [hlt]) (by simp [h1])
    exact ⟨hr, done listed todo ee a w I hk hr⟩
  | succ fuel ih =>
    intro listed todo ee a w I hk hg hcnt
    refine ⟨fun hr => done listed todo ee a w I hk hr, fun i hi => ?_⟩
    obtain ⟨hun, o, ho, hwait⟩ := mem_ready.1 hi
    have ho' : ol[i]? = some o := by simpa using ho
    have hlt : i < ol.length := (List.getElem?_eq_some_iff.1 ho').1
    have hls : i < listed.size := by rw [I.lsize]; exact hlt
    have hcnt' : (List.range ol.length).countP (fun j => !(listed.setIfInBounds i true).getD j true) ≤ fuel := by
      have : (List.range ol.length).countP (fun j => !(listed.setIfInBounds i true).getD j true) < (List.range ol.length).countP (fun j => !listed.getD j true) := by
        refine countP_lt _ _ (fun y hy => ?_) _ i (by simp [hlt]) (by simp [hun]) (by simp [Array.getD_eq_getD_getElem?, hls])
        by_cases hiy : i = y
        · subst hiy; simp [Array.getD_eq_getD_getElem?, hls] at hy
        · rwa [getD_set_ne true hiy] at hy
      omega
    have hbase : ∀ t, safeB ol i t = true → a.tmps.getD t undef = a0.tmps.getD t undef := by
      intro t ht
      refine I.base t fun j oj hj hlj hd => ?_
      have h1 := List.all_eq_true.1 ht oj (List.mem_of_getElem? hj)
      simp only [Bool.or_eq_true, bne_iff_ne, ne_eq, Array.any_eq_true, Bool.and_eq_true, beq_iff_eq] at h1
      rcases h1 with h1 | ⟨q, hq, h1, h2⟩
      · exact h1 hd
      · have := getD_of_false (I.closed j oj hj hlj _ (Array.getElem_mem hq) h2)
        rw [h1, hun] at this
        cases this
    have hdep : ∀ j oj d, depB ol i j = true → ol[j]? = some oj → oj.dst = some d → PhT bigs φ ee j (a.tmps.getD d undef) := by
      intro j oj d hj hoj hd
      obtain ⟨e, he, h1, h2⟩ := depB_spec ho' hj
      exact I.phi j oj d hoj (getD_of_false (by rw [← h1]; exact hwait e he h2)) hd
    have hset : ∀ j, j ≠ i → (listed.setIfInBounds i true).getD j true = listed.getD j true := fun j hj => getD_set_ne true (Ne.symm hj)
    have hseti : (listed.setIfInBounds i true).getD i true = true := by simp [Array.getD_eq_getD_getElem?, hls]
    have hclosed : ∀ j oj, ol[j]? = some oj → (listed.setIfInBounds i true).getD j true = true → ∀ e ∈ oj.after, Region.binds .any e = true → (listed.setIfInBounds i true).getD e.on false = true := by
      intro j oj hoj hlj e he hb
      refine getD_set_true ?_
      by_cases hji : j = i
      · subst hji
        rw [ho'] at hoj; cases hoj
        exact hwait e he hb
      · rw [hset j hji] at hlj
        exact I.closed j oj hoj hlj e he hb
    have hne : ∀ j oj d, ol[j]? = some oj → j ≠ i → o.dst = some d → oj.dst ≠ some d := by
      intro j oj d hoj hji hd hd'
      have hj : j < ol.length := (List.getElem?_eq_some_iff.1 hoj).1
      have h1 := List.all_eq_true.1 (List.all_eq_true.1 hdst i (by simp [hlt])) j (by simp [hj])
      simp only [ho', hoj, Bool.or_eq_true, beq_iff_eq, bne_iff_ne, ne_eq] at h1
      rcases h1 with h1 | h1 | h1
      · exact hji h1.symm
      · exact h1 (by rw [hd, hd'])
      · rw [hd] at h1; cases h1
    -- what is left of the frame, behind a value in slot d
    have hframe : ∀ d v (e' : List (Nat × Value)), o.dst = some d → (∀ j u, j ≠ i → PhT bigs φ ee j u → PhT bigs φ e' j u) → PhT bigs φ e' i v → 
        (∀ t, (∀ j oj, ol[j]? = some oj → (listed.setIfInBounds i true).getD j true = true → oj.dst ≠ some t) → (putsL a [(d, v)]).tmps.getD t undef = a0.tmps.getD t undef) ∧
        (∀ j oj d', ol[j]? = some oj → (listed.setIfInBounds i true).getD j true = true → oj.dst = some d' → PhT bigs φ e' j ((putsL a [(d, v)]).tmps.getD d' undef)) := by
      intro d v e' hd hR hv
      have hdN : d < a.tmps.size := by
        have h1 := List.all_eq_true.1 hdn o (List.mem_of_getElem? ho')
        simp only [hd, Nat.blt_eq] at h1
        rw [I.size]; exact h1
      refine ⟨fun t ht => ?_, fun j oj d' hoj hlj hd' => ?_⟩
      · have hdt : d ≠ t := fun e => ht i o ho' hseti (by rw [hd, e])
        rw [get_put_ne hdt]
        refine I.base t fun j oj hoj hlj => ?_
        by_cases hji : j = i
        · subst hji; rw [hun] at hlj; cases hlj
        · exact ht j oj hoj (by rw [hset j hji]; exact hlj)
      · by_cases hji : j = i
        · subst hji
          rw [ho'] at hoj; cases hoj
          rw [hd] at hd'; cases hd'
          rw [get_put_eq hdN]
          exact hv
        · rw [hset j hji] at hlj
          have : d ≠ d' := fun e => hne j oj d hoj hji hd (by rw [hd', e])
          rw [get_put_ne this]
          exact hR j _ hji (I.phi j oj d' hoj hlj hd')
    by_cases hin : bigs.contains i = true
    · have hmem : i ∈ bigs := by simpa using hin
      have hit : i ∈ todo := (I.todos i).2 ⟨hmem, hun⟩
      have hrt : i ∈ readyT ol todo := by
        unfold readyT
        rw [List.mem_filter]
        refine ⟨hit, List.all_eq_true.2 fun j hj => ?_⟩
        cases hd : depB ol i j with
        | false => rfl
        | true =>
          obtain ⟨x, hx, h1, h2⟩ := depB_spec ho' hd
          have h3 := getD_of_false (hwait x hx h2)
          rw [h1, ((I.todos j).1 hj).2] at h3
          cases h3
      obtain ⟨n, hn⟩ : ∃ n, todo.length = n + 1 := ⟨todo.length - 1, by have := List.length_pos_of_mem hit; omega⟩
      have hn2 : (todo.erase i).length = n := by rw [List.length_erase_of_mem hit, hn]; rfl
      rw [hn] at hk
      have h0 := hk i hrt w (grown_refl _ _) hg a I.size hbase hdep o ho'
      refine wp_one (by simpa using ho') h0 fun a' w' h => ?_
      obtain ⟨v, h1, h2, h3⟩ := h
      have htodo : ∀ x, x ∈ todo.erase i ↔ x ∈ bigs ∧ (listed.setIfInBounds i true).getD x true = false := by
        intro x
        rw [I.nodup.mem_erase_iff, I.todos]
        by_cases hxi : x = i
        · subst hxi; simp [hseti]
        · rw [hset x hxi]; simp [hxi]
      refine ih _ (todo.erase i) ((i, v) :: ee) a' w' ?_ (by rw [hn2]; exact h2) h3 hcnt'
      have hpi : PhT bigs φ ((i, v) :: ee) i v := ⟨fun _ => by simp, fun hh => absurd (hin.symm.trans hh) (by decide)⟩
      rcases h1 with ⟨hd, rfl⟩ | ⟨d, hd, rfl⟩
      · refine ⟨I.size, I.defers, fun t ht => ?_, fun j oj d' hoj hlj hd' => ?_, hclosed, by simp [I.lsize], htodo, I.nodup.erase i⟩
        · refine I.base t fun j oj hoj hlj => ?_
          by_cases hji : j = i
          · subst hji; rw [hun] at hlj; cases hlj
          · exact ht j oj hoj (by rw [hset j hji]; exact hlj)
        · by_cases hji : j = i
          · subst hji
            rw [ho'] at hoj; cases hoj
            rw [hd] at hd'; cases hd'
          · rw [hset j hji] at hlj
            exact PhT.mono hji (I.phi j oj d' hoj hlj hd')
      · obtain ⟨f1, f2⟩ := hframe d v ((i, v) :: ee) hd (fun j u hj h => h.mono hj) hpi
        exact ⟨by rw [putsL_size, I.size], by rw [putsL_defers, I.defers], f1, f2, hclosed, by simp [I.lsize], htodo, I.nodup.erase i⟩
    · have hin' : bigs.contains i = false := by simpa using hin
      have hck : ∀ j, bigs.contains j = true → depB ol j i = true → j ∈ todo := by
        intro j hj hd
        rw [I.todos]
        refine ⟨by simpa using hj, ?_⟩
        cases hl : listed.getD j true with
        | false => rfl
        | true =>
          exfalso
          cases hok : ol[j]? with
          | none => simp [depB, hok] at hd
          | some ok =>
            obtain ⟨x, hx, h4, h5⟩ := depB_spec hok hd
            have h6 := getD_of_false (I.closed j ok hok hl x hx h5)
            rw [h4, hun] at h6; cases h6
      refine wp_one (by simpa using ho') (obL i o ho' hin' ee todo a w I.size hck hg hbase hdep) fun a' w' h => ?_
      obtain ⟨⟨d, v, hd, rfl, hv⟩, hgr⟩ := h
      obtain ⟨f1, f2⟩ := hframe d v ee hd (fun _ _ _ h => h) ⟨fun hh => absurd (hin'.symm.trans hh) (by decide), fun _ => hv⟩
      refine ih _ todo ee _ w' ⟨by rw [putsL_size, I.size], by rw [putsL_defers, I.defers], f1, f2, hclosed, by simp [I.lsize], fun x => ?_, I.nodup⟩ (hk.stable hgr) (hG _ _ _ hgr hg) hcnt'
      rw [I.todos]
      by_cases hxi : x = i
      · subst hxi; simp [hseti, hun]; simpa using hin'
      · rw [hset x hxi]
theorem any_treek (bigs : List Nat) (hlex : lexB' ol = true) (hdn : dstNB ol N = true) (hdst : dstsB ol = true) (hbl : (bigs.all fun i => Nat.blt i ol.length) = true) (hnd : decide bigs.Nodup = true)
    {l : List (Nat × Value)} {w : World} (hN : a0.tmps.size = N) (hG : ∀ t w1 w2, w1.grownBy w2 none → G t w1 → G t w2) (g0 : G bigs w) (obL : ObRk9 P ol bigs φ G (putsL a0 l) N 0 ol) (hdf : (putsL a0 l).defers = a0.defers)
    (main : KTk P ol bigs φ G (putsL a0 l) N Q bigs.length bigs [] w) : RegAny P ol Q (putsL a0 l) w := by
  have hd : w.grownBy { w with drawn := w.drawn + 1 } none := ⟨rfl, rfl, rfl, Nat.le_refl _, fun _ _ _ => rfl⟩
  have I : TInv ol bigs φ (putsL a0 l) N (Array.replicate ol.length false) bigs [] (putsL a0 l) := by
    refine ⟨slN hN, rfl, fun _ _ => rfl, fun j o d hj hl => ?_, fun j o hj hl => ?_, by simp, fun i => ⟨fun hi => ⟨hi, ?_⟩, fun hi => hi.1⟩, of_decide_eq_true hnd⟩
    · have : j < ol.length := (List.getElem?_eq_some_iff.1 hj).1
      simp [Array.getD_eq_getD_getElem?, this] at hl
    · have : j < ol.length := (List.getElem?_eq_some_iff.1 hj).1
      simp [Array.getD_eq_getD_getElem?, this] at hl
    · have := List.all_eq_true.1 hbl i hi
      have h3 : i < ol.length := by simpa [Nat.blt_eq] using this
      simp [Array.getD_eq_getD_getElem?, h3]
  exact region_treek_steps (P := P) (Q := Q) hlex hdn hdst hbl hG (fun i o hi hh => by
      have h5 := ObRk9.getx obL i o hi (by rw [Nat.zero_add]; exact hh)
      rw [Nat.zero_add] at h5; exact h5) ol.length (Array.replicate ol.length false) bigs [] (putsL a0 l) _ I (main.stable hd) (hG _ _ _ hd g0) (Nat.le_trans (List.countP_le_length) (by simp))
theorem ktk_step {n : Nat} {todo rs : List Nat} {e : List (Nat × Value)} {w : World} (hr : readyT ol todo = rs) (h : ∀ i ∈ rs, KIk P ol bigs φ G a0 N e todo i w fun v w' => KTk P ol bigs φ G a0 N Q n (todo.erase i) ((i, v) :: e) w') : KTk P ol bigs φ G a0 N Q (n + 1) todo e w := by
  subst hr; exact h
theorem ktk_end {todo : List Nat} {i : Nat} {o : Oper} {d : Nat} {v : Value} {a : Act} {w : World} {K : Value → World → Prop} (hd : o.dst = some d) (g : G (todo.erase i) w) (h : K v w) :
    wpList P ol.toArray (fun ex a' w' => ex = .normal ∧ ∃ v, ((o.dst = none ∧ a' = a) ∨ ∃ d, o.dst = some d ∧ a' = putsL a [(d, v)]) ∧ K v w' ∧ G (todo.erase i) w') [] (putsL a [(d, v)]) w := ⟨rfl, v, .inr ⟨d, hd, rfl⟩, h, g⟩
theorem ktk_end0 {todo : List Nat} {i : Nat} {o : Oper} {a : Act} {w : World} {K : Value → World → Prop} (hd : o.dst = none) (g : G (todo.erase i) w) (h : K undef w) :
    wpList P ol.toArray (fun ex a' w' => ex = .normal ∧ ∃ v, ((o.dst = none ∧ a' = a) ∨ ∃ d, o.dst = some d ∧ a' = putsL a [(d, v)]) ∧ K v w' ∧ G (todo.erase i) w') [] (putsL a []) w := ⟨rfl, undef, .inl ⟨hd, rfl⟩, h, g⟩
theorem obTk_end {o : Oper} {i d : Nat} {v : Value} {a : Act} {w : World} (hd : o.dst = some d) (hv : φ i v) :
    wpList P ol.toArray (fun ex a' w' => ex = .normal ∧ (∃ d v, o.dst = some d ∧ a' = putsL a [(d, v)] ∧ φ i v) ∧ w.grownBy w' none) [] (putsL a [(d, v)]) w := ⟨rfl, ⟨d, v, hd, rfl, hv⟩, grown_refl _ _⟩
end
end Go.Gx

namespace Go.Gx
open Go.RowKit
section
variable {P : Program} {w : World} {L B L2 B2 n m : Nat} {v u : Value} {la lb : List UInt8}
end
end Go.Gx

namespace Go.Gx
open Go.RowKit
section
variable {P : Program} {Q : Exit → Act → World → Prop} {a : Act} {w w' w9 : World} {l : List (Nat × Value)} {ops : Array Oper} {rest : List Oper}
variable {d ty t e xt yt tx i : Nat} {p : String} {af : Array Edge} {x y : Operand} {v : Value} {k : IntKind} {n base sz by_ b o : Nat} {cs ws : List Value} {zv : Value} {r : Int}
theorem Own.atV (O : Own w base e sz v n cs) (h1 : i < n) : ∃ b o, base ≤ b ∧ AtV v (i * sz) b o := by
  obtain ⟨hl, ⟨rfl, rfl⟩ | ⟨g, off, cap, cur, fr, rfl, hb, _⟩⟩ := O
  · omega
  · exact ⟨g, off + i * sz, hb, off, n, cap, rfl, rfl⟩
theorem op_index_at (T : SlT P xt e zv sz by_) (hx : (putsL a l).eval x = v) (O : Own w9 base e sz v n cs) (hy : (putsL a l).eval y = .int k r) (hr : r = (i : Int)) (h1 : i < n) (hA : AtV v (i * sz) b o)
    (h : wpList P ops Q rest (putsL a ((d, ptr b o) :: l)) w) : wpList P ops Q (⟨some d, .indexAddr xt x y, ty, p, af, none⟩ :: rest) (putsL a l) w := by
  obtain ⟨inf, hi, hz0, hz1, hz2⟩ := info_parts T.info
  subst hr
  obtain ⟨hl, ⟨rfl, rfl⟩ | ⟨g, off, cap, cur, fr, rfl, hb, _⟩⟩ := O
  · omega
  · obtain ⟨off2, n2, c2, hv, rfl⟩ := hA
    injection hv with e1 e2 e3; injection e1 with e1; injection e1 with e1 e4; subst e1; subst e4
    refine op_gen (v := ptr g (off + i * sz)) rfl ?_ h
    have hand : (0 ≤ (i : Int) ∧ (i : Int) < (n : Int)) := by omega
    simp [execOp, hx, hy, Instr.indexAt, asIntOf, run_underlying T.und, sizeOf, typeInfo, hi, ptr, Addr.add_lit, hz1, h1]
theorem RdC.atV {L B : Nat} (R : RdC w L B sz v n cs) (hp : 0 < sz) (h1 : i < n) : ∃ b o, AtV v (i * sz) b o := by
  obtain ⟨h0, a, c, hv, h2, h3, h4⟩ := R
  rcases h4 with h4 | ⟨b, off, ha, _⟩
  · rw [h4] at h0; have : 0 < n * sz := Nat.mul_pos (by omega) hp; simp at h0; omega
  · subst ha; exact ⟨b, off + i * sz, off, n, c, hv, rfl⟩
end
end Go.Gx
namespace Go.Gx
open Go.RowKit
section
variable {P : Program} {Q : Exit → Act → World → Prop} {a : Act} {w : World} {l : List (Nat × Value)} {ops : Array Oper} {rest : List Oper} {d ty e xt yt sz by_ : Nat} {p : String} {af : Array Edge} {x y : Operand} {zv : Value}
end
end Go.Gx

namespace Go.Proofs.Ytmhdbphpmgjpcaa
open Go.Gx Go.RowKit
attribute [local irreducible] wpList wpStill Code.wp Calls

def labRE (e : RE) (l : List UInt16) (v : Value) : RE := ((e.1.1, { e.1.2 with label := l }), { e.2 with la := v })
def movRE (e : RE) (l : List UInt16) (s : Int) (v : Value) : RE := ((e.1.1, moveT e.1.2 l s), { e.2 with la := v })
theorem set_reN {E : List RE} {j m : Nat} {v : Value} {a b : RE} (h : j < E.length) (hm : m + 1 ≤ 6) (he : cellsRE b = (cellsRE a).take m ++ [v] ++ (cellsRE a).drop (m + 1)) : ((E.set j a).flatMap cellsRE).take (j * 6 + m) ++ [v] ++ ((E.set j a).flatMap cellsRE).drop (j * 6 + m + 1) = (E.set j b).flatMap cellsRE := by
  have h2 := set_flat (f := cellsRE) (d := default) (x := b) (vs := [v]) (l := E.set j a) (i := j) (j := m) (sz := 6) (fun _ _ => rfl) (by rw [List.length_set]; exact h) hm (by rw [getD_set h, if_pos rfl]; exact he)
  rw [List.set_set] at h2; exact h2
theorem set_re1 {E : List RE} {j m : Nat} {v : Value} {b : RE} (h : j < E.length) (hm : m + 1 ≤ 6) (he : cellsRE b = (cellsRE (E.getD j default)).take m ++ [v] ++ (cellsRE (E.getD j default)).drop (m + 1)) : (E.flatMap cellsRE).take (j * 6 + m) ++ [v] ++ (E.flatMap cellsRE).drop (j * 6 + m + 1) = (E.set j b).flatMap cellsRE :=
  set_flat (f := cellsRE) (d := default) (x := b) (vs := [v]) (sz := 6) (fun _ _ => rfl) h hm he

theorem Move_miss9 {E : List RE} {r base : Nat} {lv : Value} {n : Int} {tv : Value} {s : Int} {w : World} (hbase : base ≤ w.heap.size) (hx : Bx w r 117 [lv]) (O : Own w base 177 6 lv E.length (E.flatMap cellsRE)) (hE9 : E.length ≤ 100000) (hm : ∀ q, q < E.length → (E.getD q default).1.1 ≠ n)  : Ret Try.prog 64 #[(ptr r 0), (.int .i64 n), tv, (.int .u64 s)] w (fun v' w' => Below w.heap.size w w' ∧ v' = .int .i64 18) := by
 have hb := Below.refl w.heap.size w
 refine enter (N := 43) Try.func64 rfl rfl (by simp) fun a hN hd hA => ?_
 have b : a.tmps.getD 0 undef = (ptr r 0) := hA 0 (by simp)
 have c : a.tmps.getD 1 undef = (.int .i64 n) := hA 1 (by simp)
 clear hA
 refine zF fun _ a => zH (zD rfl ?_)
 refine zB (a _ _ (zF fun _ a => zH (zG (zC hN rfl b) (zG (zC hN rfl c) (zj ok110 (Find_miss9 zx hx O zx hm) ⟨(zA hN rfl), ⟨(zA hN rfl), trivial⟩⟩ ?_)))))
 rintro _ c ⟨b, rfl⟩
 have b := zQ b
 obtain ⟨hb, _⟩ := yE hb b
 refine zD (zA hN rfl) (zB (a _ _ (zF fun _ a => ?_)))
 refine zF fun _ a => zH (zG (zA hN rfl) (op_bin (v := .bool true) (zA hN rfl) rfl (by rw [binOp_lss]; rfl) (zB (a _ _ (wp_cond_true (zA hN rfl) (zF fun _ a => zH (zD rfl (zB (a _ _ (wp_ret (zO ( (ret1 rfl hd (zA hN rfl) ⟨_, rfl, ?_⟩)))))))))))))
 exact ⟨hb, rfl⟩

theorem Move_wrote9 {E : List RE} {r base : Nat} {lv : Value} {n : Int} {j : Nat} {tv : Value} {s : Int} {w : World} (hbase : base ≤ w.heap.size) (hx : Bx w r 117 [lv]) (O : Own w base 177 6 lv E.length (E.flatMap cellsRE)) (hE9 : E.length ≤ 100000) (hj : j < E.length) (hn : (E.getD j default).1.1 = n) (hu : ∀ q, q < E.length → (E.getD q default).1.1 = n → q = j) (hW : Own w base 9 1 (E.getD j default).2.wv (E.getD j default).1.2.writes.length ((E.getD j default).1.2.writes.map sv)) (hw0 : 0 < (E.getD j default).1.2.writes.length)  : Ret Try.prog 64 #[(ptr r 0), (.int .i64 n), tv, (.int .u64 s)] w (fun v' w' => Below w.heap.size w w' ∧ v' = .int .i64 16) := by
 have hb := Below.refl w.heap.size w
 refine enter (N := 43) Try.func64 rfl rfl (by simp) fun a hN hd hA => ?_
 have b : a.tmps.getD 0 undef = (ptr r 0) := hA 0 (by simp)
 have c : a.tmps.getD 1 undef = (.int .i64 n) := hA 1 (by simp)
 clear hA
 refine zF fun _ a => zH (zD rfl ?_)
 refine zB (a _ _ (zF fun _ a => zH (zG (zC hN rfl b) (zG (zC hN rfl c) (zj ok110 (Find_hit9 (j := j) zx hx O zx hj hn hu) ⟨(zA hN rfl), ⟨(zA hN rfl), trivial⟩⟩ ?_)))))
 rintro _ d ⟨c, rfl⟩
 have c := zQ c
 obtain ⟨hb, _⟩ := yE hb c
 have hx := hx.keep0 c
 have O := O.keep0 c
 have hW := hW.keep0 c
 refine zD (zA hN rfl) (zB (a _ _ (zF fun _ a => zF fun _ c => zH (zG (zA hN rfl) (op_lss (zA hN rfl) rfl (fun d => ?_) (fun d => ?_))))))
 ·
  exact absurd d zx
 refine zB (c _ _ (wp_cond_false (zA hN rfl) (wp_skip (a _ _ (zF fun _ a => zF fun _ c => zH (zG (zC hN rfl b) (op_nil (zA hN rfl) (zM fld117_0 (zA hN rfl) (zN one115 (zA hN rfl) (hx.cell rfl) (zG (zA hN rfl) (zh slt115 (zA hN rfl) O.rdw (zA hN rfl) zx zx ?_)))))))))))
 intro f d e b a
 refine zM fld177_4 (zA hN rfl) (zN (v := (E.getD j default).2.wv) one26 (zA hN rfl) (a 4 _ zz ((el_re (i := j) zx zx) 4 _ rfl)) (op_len_rd Try.underlying26 (zA hN rfl) hW.rdw (op_gtr (zA hN rfl) rfl (fun b => ?_) (fun b => ?_))))
 ·
  refine zB (c _ _ (wp_cond_true (zA hN rfl) (zF fun _ c => zH (zD rfl (zB (c _ _ (wp_ret (zO ( (ret1 rfl hd (zA hN rfl) ⟨_, rfl, ?_⟩))))))))))
  exact ⟨hb, rfl⟩
 exact absurd zx b

theorem Move_hit9 {E : List RE} {r base : Nat} {lv : Value} {n : Int} {j : Nat} {tv : Value} {l : List UInt16} {s : Int} {w : World} (hbase : base ≤ w.heap.size) (hx : Bx w r 117 [lv]) (O : Own w base 177 6 lv E.length (E.flatMap cellsRE)) (hE9 : E.length ≤ 100000) (hj : j < E.length) (hn : (E.getD j default).1.1 = n) (hu : ∀ q, q < E.length → (E.getD q default).1.1 = n → q = j) (hW : Own w base 9 1 (E.getD j default).2.wv (E.getD j default).1.2.writes.length ((E.getD j default).1.2.writes.map sv)) (hw0 : ¬ 0 < (E.getD j default).1.2.writes.length) (hl : RdC w 0 w.heap.size 1 tv l.length (l.map u16v)) (hl8 : l.length ≤ 100) : Ret Try.prog 64 #[(ptr r 0), (.int .i64 n), tv, (.int .u64 s)] w (fun v' w' => w.grownBy w' lv.ownBlock ∧ v' = .int .i64 0 ∧ ∃ nv, Own w' base 177 6 lv E.length ((E.set j (movRE (E.getD j default) l s nv)).flatMap cellsRE) ∧ Own w' w.heap.size 46 1 nv l.length (l.map u16v)) := by
 have hi_r := hx.lt
 have hb := grown_refl w lv.ownBlock
 refine enter (N := 43) Try.func64 rfl rfl (by simp) fun a hN hd hA => ?_
 have b : a.tmps.getD 0 undef = (ptr r 0) := hA 0 (by simp)
 have c : a.tmps.getD 1 undef = (.int .i64 n) := hA 1 (by simp)
 have d : a.tmps.getD 2 undef = tv := hA 2 (by simp)
 have f : a.tmps.getD 3 undef = (.int .u64 s) := hA 3 (by simp)
 clear hA
 refine zF fun _ g => zH (zD rfl ?_)
 refine zB (g _ _ (zF fun _ g => zH (zG (zC hN rfl b) (zG (zC hN rfl c) (zj ok110 (Find_hit9 (j := j) zx hx O zx hj hn hu) ⟨(zA hN rfl), ⟨(zA hN rfl), trivial⟩⟩ ?_)))))
 rintro _ m ⟨k, rfl⟩
 have k := zQ k
 have := k.size
 have hx := hx.keep0 k
 have O := O.keep0 k
 have hW := hW.keep0 k
 have hl := hl.keep0 k
 have hb := grow_step0 hb k
 refine zD (zA hN rfl) (zB (g _ _ (zF fun _ g => zF fun _ o => zH (zG (zA hN rfl) (op_lss (zA hN rfl) rfl (fun p => ?_) (fun p => ?_))))))
 ·
  exact absurd p zx
 refine zB (o _ _ (wp_cond_false (zA hN rfl) (wp_skip (g _ _ (zF fun _ g => zF fun _ o => zH (zG (zC hN rfl b) (op_nil (zA hN rfl) (zM fld117_0 (zA hN rfl) (zN one115 (zA hN rfl) (hx.cell rfl) (zG (zA hN rfl) (zh slt115 (zA hN rfl) O.rdw (zA hN rfl) zx zx ?_)))))))))))
 intro z y x u t
 refine zM fld177_4 (zA hN rfl) (zN (v := (E.getD j default).2.wv) one26 (zA hN rfl) (t 4 _ zz ((el_re (i := j) zx zx) 4 _ rfl)) (op_len_rd Try.underlying26 (zA hN rfl) hW.rdw (op_gtr (zA hN rfl) rfl (fun A => ?_) (fun A => ?_))))
 ·
  exact absurd A zx
 refine zB (o _ _ (wp_cond_false (zA hN rfl) (wp_skip (g _ _ (zF fun _ g => ?_)))))
 obtain ⟨C, B, F, D⟩ := O.atV (i := j) zx
 refine reg_split (hd := [_, _, _, _, _, _, _, _, _, _, _, _, _, _, _, _, _]) (tl := _) 17 mixed zy rfl rfl (any_treek (φ := phiV [(fun uz => uz = (ptr r 0)), (fun uz => uz = (ptr r 0)), (fun uz => uz = (ptr r 0)), (fun uz => uz = lv), (fun uz => uz = (.int .i64 ((j : Nat) : Int))), (fun uz => uz = (ptr r 0)), (fun uz => uz = (ptr r 0)), (fun uz => uz = (ptr r 0)), (fun uz => uz = lv), (fun uz => uz = (.int .i64 ((j : Nat) : Int))), (fun _ => True), (fun uz => uz = tv), (fun _ => True), (fun uz => uz = (.int .u64 s)), (fun uz => uz = (ptr C B)), (fun uz => uz = (ptr C (B + 1))), (fun _ => True)]) (G := fun H w' => 16 ∈ H → (Bx w' r 117 [lv])) [10, 12, 16] zy zy zy zy zy hN (fun _ J K E h I => (h I).keep0 E) (fun _ => hx) (ObRk9.cons ?_ (ObRk9.cons ?_ (ObRk9.cons ?_ (ObRk9.cons ?_ (ObRk9.cons ?_ (ObRk9.cons ?_ (ObRk9.cons ?_ (ObRk9.cons ?_ (ObRk9.cons ?_ (ObRk9.cons ?_ (ObRk9.pass rfl (ObRk9.cons ?_ (ObRk9.pass rfl (ObRk9.cons ?_ (ObRk9.cons ?_ (ObRk9.cons ?_ (ObRk9.pass rfl (ObRk9.nil)))))))))))))))))) (by simp only [putsL_defers]) ?_)
 ·
  intro eA tA aA wA hNA hckA hGA hbsA hdpA
  have L := (hbsA 0 rfl).trans (zL hN rfl b)
  refine zG (zC hNA rfl L) ?_
  exact obTk_end rfl rfl
 ·
  intro eA tA aA wA hNA hckA hGA hbsA hdpA
  have M : Sl aA 25 (ptr r 0) := (hdpA 0 _ 25 zy rfl rfl).2 rfl
  refine op_nil (zC hNA rfl M) ?_
  exact obTk_end rfl rfl
 ·
  intro eA tA aA wA hNA hckA hGA hbsA hdpA
  have M : Sl aA 26 (ptr r 0) := (hdpA 1 _ 26 zy rfl rfl).2 rfl
  refine zM fld117_0 (zC hNA rfl M) ?_
  exact obTk_end rfl rfl
 ·
  intro eA tA aA wA hNA hckA hGA hbsA hdpA
  have M : Sl aA 27 (ptr r 0) := (hdpA 2 _ 27 zy rfl rfl).2 rfl
  have hGA := hGA (hckA 16 rfl zy)
  refine zN one115 (zC hNA rfl M) (hGA.cell rfl) ?_
  exact obTk_end rfl rfl
 ·
  intro eA tA aA wA hNA hckA hGA hbsA hdpA
  have M := (hbsA 9 rfl).trans (zU hN rfl)
  refine zG (zC hNA rfl M) ?_
  exact obTk_end rfl rfl
 ·
  intro eA tA aA wA hNA hckA hGA hbsA hdpA
  have L := (hbsA 0 rfl).trans (zL hN rfl b)
  refine zG (zC hNA rfl L) ?_
  exact obTk_end rfl rfl
 ·
  intro eA tA aA wA hNA hckA hGA hbsA hdpA
  have L : Sl aA 30 (ptr r 0) := (hdpA 5 _ 30 zy rfl rfl).2 rfl
  refine op_nil (zC hNA rfl L) ?_
  exact obTk_end rfl rfl
 ·
  intro eA tA aA wA hNA hckA hGA hbsA hdpA
  have L : Sl aA 31 (ptr r 0) := (hdpA 6 _ 31 zy rfl rfl).2 rfl
  refine zM fld117_0 (zC hNA rfl L) ?_
  exact obTk_end rfl rfl
 ·
  intro eA tA aA wA hNA hckA hGA hbsA hdpA
  have L : Sl aA 32 (ptr r 0) := (hdpA 7 _ 32 zy rfl rfl).2 rfl
  have hGA := hGA (hckA 16 rfl zy)
  refine zN one115 (zC hNA rfl L) (hGA.cell rfl) ?_
  exact obTk_end rfl rfl
 ·
  intro eA tA aA wA hNA hckA hGA hbsA hdpA
  have M := (hbsA 9 rfl).trans (zU hN rfl)
  refine zG (zC hNA rfl M) ?_
  exact obTk_end rfl rfl
 ·
  intro eA tA aA wA hNA hckA hGA hbsA hdpA
  have L := (hbsA 2 rfl).trans (zL hN rfl d)
  refine zG (zC hNA rfl L) ?_
  exact obTk_end rfl rfl
 ·
  intro eA tA aA wA hNA hckA hGA hbsA hdpA
  have L := (hbsA 3 rfl).trans (zL hN rfl f)
  refine zG (zC hNA rfl L) ?_
  exact obTk_end rfl rfl
 ·
  intro eA tA aA wA hNA hckA hGA hbsA hdpA
  have L : Sl aA 28 lv := (hdpA 3 _ 28 zy rfl rfl).2 rfl
  have M : Sl aA 29 (.int .i64 ((j : Nat) : Int)) := (hdpA 4 _ 29 zy rfl rfl).2 rfl
  refine op_index_at (i := j) slt115 (zC hNA rfl L) O (zC hNA rfl M) zx zx D ?_
  exact obTk_end rfl rfl
 ·
  intro eA tA aA wA hNA hckA hGA hbsA hdpA
  have L : Sl aA 39 (ptr C B) := (hdpA 14 _ 39 zy rfl rfl).2 rfl
  refine zM fld177_1 (zC hNA rfl L) ?_
  exact obTk_end rfl rfl
 refine ktk_step (rs := [10]) zy (one_mem ?_)
 intro P L _ Q M R S o_ ho_; obtain rfl := zE ho_
 have := L.size
 have hb := grow_step0 hb L
 refine op_bslice (e := 46) (pv := []) (cs := []) trivial zy ?_
 intro W V X Y U T
 have := T.size
 have hx := (hx.keep0 L).keep0 T
 have hb := grow_step0 hb T
 refine ktk_end (G := fun H w' => 16 ∈ H → (Bx w' r 117 [lv])) (todo := [10, 12, 16]) (i := 10) rfl (fun _ => hx) (ktk_step (rs := [12]) zy (one_mem ?_))
 intro ae Z _ ab ac ad aa o_ ho_; obtain rfl := zE ho_
 have := Z.size
 have hl := ((hl.keep0 L).keep0 T).keep0 Z
 have U := U.keep0 Z
 have hb := grow_step0 hb Z
 have af : Sl ab 35 (.slice (some ⟨V, 0, none⟩) 0 0) := (zE ((aa 10 _ 35 zy rfl rfl).1 rfl)).symm
 have ag : Sl ab 36 tv := (aa 11 _ 36 zy rfl rfl).2 rfl
 have ah := (Own.ofBx (base := w.heap.size) (sz := 1) (n := 0) U rfl zz zx)
 refine op_append slt54 (zC ac rfl af) ah (zC ac rfl ag) (Src.ofRd Try.underlying54 zz hl (one_u16 _)) (by unfold maxLen; omega) zx hb.size ?_
 intro aj al ai ak am
 have := ak.size
 have hx := (hx.keep0 Z).keep ak (by simp [Value.ownBlock]; try omega)
 have hl := hl.keepO ah ak zx
 have hb := grow_stepO hb ah ak zx
 have ai : Own al w.heap.size 46 1 aj (0 + l.length) ((l).map u16v) := by simpa [u8v, u16v, sv] using ai
 skip
 refine ktk_end (G := fun H w' => 16 ∈ H → (Bx w' r 117 [lv])) (todo := [12, 16]) (i := 12) rfl (fun _ => hx) (ktk_step (rs := [16]) zy (one_mem ?_))
 intro au an _ aq ao ar ap o_ ho_; obtain rfl := zE ho_
 have := an.size
 have O := ((((O.keep0 L).keep0 T).keep0 Z).keepT ah ak zz).keep0 an
 have ai := ai.keep0 an
 have hb := grow_step0 hb an
 have a : Sl aq 40 (ptr C (B + 1)) := (ap 15 _ 40 zy rfl rfl).2 rfl
 have b : Sl aq 37 aj := (zE ((ap 12 _ 37 zy rfl rfl).1 rfl)).symm
 have c := O
 refine op_store_own (vs := [aj]) size54 (zC ao rfl a) (zC ao rfl b) ai.cl rfl (by simp only [yA, yB, yC, yD, ai.one]; try rfl) c (D.fld 1) (by have := c.1; simp only [List.length_cons, List.length_nil]; omega) ?_
 intro d a b
 have := b.size
 have hb := grow_stepX hb b rfl
 have a : Own d base 177 6 lv E.length (((E.set j (labRE (E.getD j default) l aj))).flatMap cellsRE) := by exact a.cast rfl (set_re1 zx zz rfl)
 refine ktk_end0 (G := fun H w' => 16 ∈ H → (Bx w' r 117 [lv])) (todo := [16]) (i := 16) rfl (fun h => absurd h zz) ?_
 intro p f o d m t k
 have m := m.trans ((by simp only [putsL_defers] : _ = _).trans hd)
 have := f.size
 have a := a.keep0 f
 have hb := grow_step0 hb f
 have p : Sl o 33 lv := (k 8 _ 33 rfl rfl).2 rfl
 have t : Sl o 34 (.int .i64 ((j : Nat) : Int)) := (k 9 _ 34 rfl rfl).2 rfl
 have u : Sl o 38 (.int .u64 s) := (k 13 _ 38 rfl rfl).2 rfl
 refine split_end (from_seq (tl := [_, _, _]) zz zy rfl (op_index_own (i := j) slt115 (zC d rfl p) a (zC d rfl t) zx zx ?_))
 intro o p t k
 refine zM fld177_2 (zA d rfl) ?_
 have o := a
 refine op_store_own (vs := [(.int .u64 s)]) size61 (zA d rfl) (zC d rfl u) rfl rfl rfl o (k.fld 2) (by have := o.1; simp only [List.length_cons, List.length_nil]; omega) ?_
 intro p k a
 have := a.size
 have ai := ((ai.keepT c b zz).keep0 f).keepT o a zz
 have hb := grow_stepX hb a rfl
 have k : Own p base 177 6 lv E.length (((E.set j (movRE (E.getD j default) l s aj))).flatMap cellsRE) := by exact k.cast rfl (set_reN zx zz rfl)
 refine zB (g _ _ (zF fun _ g => zH (zD rfl (zB (g _ _ (wp_ret (ret1 rfl m (zA d rfl) ⟨_, rfl, ?_⟩)))))))
 exact ⟨hb, rfl, aj, k, ai.cast (by simp) (by simp)⟩

end Go.Proofs.Ytmhdbphpmgjpcaa

namespace Go.Gx
theorem inF_step {F : Nat → Prop} {v v2 : Value} {n n2 : Nat} (hm : v2.ownBlock = v.ownBlock ∨ ∀ k, v2.ownBlock = some k → n2 ≤ k) (hn : n ≤ n2) (h : ∀ k, k < n → Bl v k → F k) : ∀ k, k < n → Bl v2 k → F k := fun k hk hb => by
  rcases hm with hm | hm
  · exact h k hk (hm.symm.trans hb)
  · have := hm k hb; omega
end Go.Gx

namespace Go.Proofs.Ytmhdbphpmgjpcaa
open Go.Gx Go.RowKit
attribute [local irreducible] wpList wpStill Code.wp Calls

def RfAll (w : World) (base B : Nat) (E : List RE) (F : Nat → Prop) : Prop := (∀ e ∈ E, RfAt w base e) ∧ (∀ x, F x ↔ ∃ e ∈ E, PartE e x) ∧ (∀ x, F x → base ≤ x ∧ x < B) ∧ B ≤ w.heap.size
section
variable {w w' : World} {base B i j k : Nat} {E : List RE} {F G : Nat → Prop} {n o : Int} {U : TX} {Rs : List (List UInt8)} {x : List UInt8}
theorem RfAll.lt (h : RfAll w base B E F) : ∀ x, F x → base ≤ x ∧ x < w.heap.size := fun x hx => ⟨(h.2.2.1 x hx).1, Nat.lt_of_lt_of_le (h.2.2.1 x hx).2 h.2.2.2⟩
theorem RfAll.keepG (h : RfAll w base B E F) (E2 : Gr w w' G) (hd : Dj F G) : RfAll w' base B E F :=
  ⟨fun e he => (h.1 e he).keepG E2 fun x hx => hd x ((h.2.1 x).2 ⟨e, he, hx⟩), h.2.1, h.2.2.1, Nat.le_trans h.2.2.2 E2.size⟩
theorem RfAll.kz (h : RfAll w base B E F) (E9 : w.grownBy w' none) : RfAll w' base B E F := h.keepG (Gr.of0 E9 NoB) (fun _ _ h => h)
theorem RfAll.notOwn {base2 e sz nn : Nat} {v : Value} {cs : List Value} (h : RfAll w base B E F) (O : Own w base2 e sz v nn cs) (h1 : e ≠ 46) (h2 : e ≠ 181) (h3 : e ≠ 9) : Dj (Bl v) F := fun y hy hf => by
  obtain ⟨a, ha, hp⟩ := (h.2.1 y).1 hf
  obtain ⟨q1, q2, q3, q4, _⟩ := h.1 a ha
  rcases hp with hp | hp | hp | ⟨r, hr, hp⟩
  · exact O.notOwn q1 h1 y hy hp
  · exact O.notOwn q2 h2 y hy hp
  · exact O.notOwn q4 h3 y hy hp
  · exact O.notOwn (q3 _ (List.mem_map.2 ⟨r, hr, rfl⟩)) h1 y hy hp
theorem RfAll.notBx {b tt : Nat} {cs : List Value} (h : RfAll w base B E F) (hB : Bx w b tt cs) (h1 : tt ≠ 46) (h2 : tt ≠ 181) (h3 : tt ≠ 9) : ¬ F b := fun hf => by
  obtain ⟨a, ha, hp⟩ := (h.2.1 b).1 hf
  obtain ⟨q1, q2, q3, q4, _⟩ := h.1 a ha
  rcases hp with hp | hp | hp | ⟨r, hr, hp⟩
  · exact q1.neB hB h1 hp
  · exact q2.neB hB h2 hp
  · exact q4.neB hB h3 hp
  · exact (q3 _ (List.mem_map.2 ⟨r, hr, rfl⟩)).neB hB h1 hp
theorem RfAll.rds (h : RfAll w base B E F) (hi : i < E.length) : RdC w 0 B 1 (E.getD i default).2.la (E.getD i default).1.2.label.length ((E.getD i default).1.2.label.map u16v) ∧ RdC w 0 B 2 (E.getD i default).2.rv (E.getD i default).2.D.length ((E.getD i default).2.D.flatMap cellsRd) ∧ (∀ x9 ∈ (E.getD i default).2.D.map rdL, RdC w 0 B 1 x9.1 x9.2.length (x9.2.map u16v)) ∧ RdC w 0 B 1 (E.getD i default).2.wv (E.getD i default).1.2.writes.length ((E.getD i default).1.2.writes.map sv) ∧ (E.getD i default).2.D.map rOf = (E.getD i default).1.2.reads := by
  have hm := getD_mem (d := default) hi
  obtain ⟨h1, h2, h3, h4, h5⟩ := h.1 _ hm
  have hl : ∀ x, PartE (E.getD i default) x → x < B := fun x hx => (h.2.2.1 x ((h.2.1 x).2 ⟨_, hm, hx⟩)).2
  refine ⟨(h1.rd fun k hk => hl k (.inl hk)).mono (Nat.zero_le _) (Nat.le_refl _), (h2.rd fun k hk => hl k (.inr (.inl hk))).mono (Nat.zero_le _) (Nat.le_refl _), fun x9 hx9 => ?_, (h4.rd fun k hk => hl k (.inr (.inr (.inl hk)))).mono (Nat.zero_le _) (Nat.le_refl _), h5⟩
  obtain ⟨r, hr, rfl⟩ := List.mem_map.1 hx9
  exact ((h3 _ hx9).rd fun k hk => hl k (.inr (.inr (.inr ⟨r, hr, hk⟩)))).mono (Nat.zero_le _) (Nat.le_refl _)
def outE (E : List RE) (n : Int) (U : TX) (Rs : List (List UInt8)) (x : List UInt8) (i : Nat) : Int := outR n U Rs x ((E.take i).map Prod.fst)
def wB (E : List RE) (n : Int) (U : TX) (Rs : List (List UInt8)) (x : List UInt8) (i : Nat) : Bool := wayB n U Rs x (E.getD i default).1.1 (E.getD i default).1.2
def wD (E : List RE) (n : Int) (U : TX) (Rs : List (List UInt8)) (x : List UInt8) (i : Nat) : Bool := wayD n U Rs x (E.getD i default).1.1 (E.getD i default).1.2
theorem wD_B (h : wD E n U Rs x i = true) : wB E n U Rs x i = true := by
  unfold wD wayD at h; unfold wB wayB
  rw [Bool.and_eq_true] at h ⊢
  have h2 := h.2
  rw [Bool.and_eq_true] at h2; exact ⟨h.1, h2.1⟩
theorem outE_step (h : i < E.length) : outE E n U Rs x (i + 1) = if wD E n U Rs x i = true then 3 else if outE E n U Rs x i = 3 then 3 else if wB E n U Rs x i = true then 2 else outE E n U Rs x i := by
  unfold outE
  rw [takeT (d := default) h, List.map_append]
  unfold outR wD wB
  simp only [List.any_append, List.map_cons, List.map_nil, List.any_cons, List.any_nil, Bool.or_false]
  generalize (List.map Prod.fst (E.take i)).any (fun a => wayD n U Rs x a.1 a.2) = a
  generalize (List.map Prod.fst (E.take i)).any (fun a => wayB n U Rs x a.1 a.2) = b
  generalize wayD n U Rs x (E.getD i default).1.1 (E.getD i default).1.2 = c
  generalize wayB n U Rs x (E.getD i default).1.1 (E.getD i default).1.2 = d
  cases a <;> cases b <;> cases c <;> cases d <;> rfl
theorem outE_no (h : i < E.length) (c : wB E n U Rs x i = false) : outE E n U Rs x (i + 1) = outE E n U Rs x i := by
  rw [outE_step h, if_neg (fun q => by rw [wD_B q] at c; cases c)]
  split
  · exact (by assumption : outE E n U Rs x i = 3).symm
  · rw [if_neg (by rw [c]; decide)]
theorem outE_3 (h : i < E.length) (c : outE E n U Rs x i = 3) : outE E n U Rs x (i + 1) = 3 := by rw [outE_step h, if_pos c]; split <;> rfl
theorem outE_d (h : i < E.length) (c : wD E n U Rs x i = true) : outE E n U Rs x (i + 1) = 3 := by rw [outE_step h, if_pos c]
theorem outE_b (h : i < E.length) (c : wB E n U Rs x i = true) (c2 : wD E n U Rs x i = false) (c3 : outE E n U Rs x i ≠ 3) : outE E n U Rs x (i + 1) = 2 := by rw [outE_step h, if_neg (by rw [c2]; decide), if_neg c3, if_pos c]
theorem outE_all : outE E n U Rs x E.length = outR n U Rs x (E.map Prod.fst) := by unfold outE; rw [List.take_length]
def stK (W : List (List UInt8)) (R : List (List UInt8 × List UInt16)) (Rs : List (List UInt8)) (x : List UInt8) (l : List UInt16) (k : Nat) : Bool := (decide (x ≠ []) && (writB W x || covB R x l)) || (Rs.take k).any (writB W)
theorem stK_all {t : TX} {l : List UInt16} (h : Rs.length ≤ k) : stK t.writes t.reads Rs x l k = standB t Rs x l := by unfold stK standB; rw [List.take_of_length_le h, Bool.or_comm]
theorem stK_step {W : List (List UInt8)} {R : List (List UInt8 × List UInt16)} {l : List UInt16} (h : k < Rs.length) : stK W R Rs x l (k + 1) = (stK W R Rs x l k || writB W (Rs.getD k [])) := by unfold stK; rw [takeT (d := []) h, List.any_append, List.any_cons, List.any_nil, Bool.or_false, Bool.or_assoc]
theorem gotW_0 : U.writes = gotW U [] := by unfold gotW; rw [if_pos rfl]
theorem wadd (W : List (List UInt8)) : (W.any fun y => decide (x = y)) = writB W x := by unfold writB; congr 1; funext y; exact decide_eq_decide.2 eq_comm
theorem gotW_h (h : x ≠ []) (c : writB U.writes x = true) : U.writes = gotW U x := by unfold gotW addW; rw [if_neg h, wadd, if_pos c]
theorem gotW_n (h : x ≠ []) (c : writB U.writes x = false) : U.writes ++ [x] = gotW U x := by unfold gotW addW; rw [if_neg h, wadd, if_neg (by rw [c]; decide)]
theorem set_re6 {b : RE} (h : i < E.length) : (E.flatMap cellsRE).take (i * 6) ++ cellsRE b ++ (E.flatMap cellsRE).drop (i * 6 + 6) = (E.set i b).flatMap cellsRE :=
  set_flat (f := cellsRE) (d := default) (x := b) (vs := cellsRE b) (j := 0) (sz := 6) (fun _ _ => rfl) h (Nat.le_refl _) rfl
theorem wB_of {b : Bool} {R : List (List UInt8 × List UInt16)} (hk : (E.getD i default).1.1 ≠ n) (hl : decide ((E.getD i default).1.2.label = U.label) = b) (hD : R = (E.getD i default).1.2.reads) (h : Rs.length ≤ k) : wB E n U Rs x i = (b && stK (E.getD i default).1.2.writes R Rs x U.label k) := by
  subst hD; rw [stK_all h]; unfold wB wayB; rw [hl, decide_eq_true hk, Bool.true_and]
theorem wD_of {b : Bool} {R : List (List UInt8 × List UInt16)} (hk : (E.getD i default).1.1 ≠ n) (hl : decide ((E.getD i default).1.2.label = U.label) = b) (hD : R = (E.getD i default).1.2.reads) (h : Rs.length ≤ k) : wD E n U Rs x i = (b && (stK (E.getD i default).1.2.writes R Rs x U.label k && decide ((E.getD i default).1.2.stamp ≤ U.stamp))) := by
  subst hD; rw [stK_all h]; unfold wD wayD; rw [hl, decide_eq_true hk, Bool.true_and]
theorem el_reJ {e : Int} {la rv wv : Value} {D : List RD} (hj : E.getD i default = ((n, U), ⟨la, rv, wv, D⟩)) (he : e = (i : Int)) (h : i < E.length) : ∀ j u, ([.int .i64 n, la, .int .u64 U.stamp, rv, wv, .bool U.doomed] : List Value)[j]? = some u → (E.flatMap cellsRE)[e.toNat * 6 + j]? = some u := by
  have := el_re he h; rw [hj] at this; exact this
end

theorem Ask_miss9 {E : List RE} {r base : Nat} {lv : Value} {n : Int} {rsv : Value} {x : List UInt8} {w : World} (hbase : base ≤ w.heap.size) (hx : Bx w r 117 [lv]) (O : Own w base 177 6 lv E.length (E.flatMap cellsRE)) (hE9 : E.length ≤ 100000) (hm : ∀ q, q < E.length → (E.getD q default).1.1 ≠ n)  : Ret Try.prog 68 #[(ptr r 0), (.int .i64 n), rsv, (.string (bs x))] w (fun v' w' => Below w.heap.size w w' ∧ v' = .tuple #[.int .i64 0, .int .i64 18]) := by
 have hb := Below.refl w.heap.size w
 refine enter (N := 143) Try.func68 rfl rfl (by simp) fun a hN hd hA => ?_
 have b : a.tmps.getD 0 undef = (ptr r 0) := hA 0 (by simp)
 have c : a.tmps.getD 1 undef = (.int .i64 n) := hA 1 (by simp)
 clear hA
 refine zF fun _ a => zH (zD rfl (zD rfl ?_))
 refine zB (a _ _ (zF fun _ a => zH (zG (zC hN rfl b) (zG (zC hN rfl c) (zj ok110 (Find_miss9 zx hx O zx hm) ⟨(zA hN rfl), ⟨(zA hN rfl), trivial⟩⟩ ?_)))))
 rintro _ c ⟨b, rfl⟩
 have b := zQ b
 obtain ⟨hb, _⟩ := yE hb b
 refine zD (zA hN rfl) (zB (a _ _ (zF fun _ a => zF fun _ b => ?_)))
 refine zH (zG (zA hN rfl) (op_bin (v := .bool true) (zA hN rfl) rfl (by rw [binOp_lss]; rfl) (zB (b _ _ (wp_cond_true (zA hN rfl) (zF fun _ b => zH (zD rfl (zD rfl (zB (b _ _ (wp_ret (zO ( (ret2 rfl hd (zA hN rfl) (zA hN rfl) ⟨_, rfl, ?_⟩))))))))))))))
 exact ⟨hb, rfl⟩

theorem Ask_hit9 {E : List RE} {r base lo m : Nat} {lv la rv wv rsv : Value} {n : Int} {U : TX} {D : List RD} {Rs : List (List UInt8)} {x : List UInt8} {FA : Nat → Prop} {w : World} (hbase : base ≤ w.heap.size) (hx : Bx w r 117 [lv]) (O : Own w base 177 6 lv E.length (E.flatMap cellsRE)) (hE9 : E.length ≤ 100000) (hj : m < E.length) (hej : E.getD m default = ((n, U), ⟨la, rv, wv, D⟩)) (hu : ∀ q, q < E.length → (E.getD q default).1.1 = n → q = m) (hA9 : RfAll w base w.heap.size E FA) (hE8 : ∀ e ∈ E, e.1.2.label.length ≤ 8 ∧ ∀ r ∈ e.2.D, r.lab.length ≤ 8) (hLa : Own w base 46 1 la U.label.length (U.label.map u16v)) (hR : Own w base 181 2 rv D.length (D.flatMap cellsRd)) (hD : ∀ x9 ∈ D.map rdL, Own w base 46 1 x9.1 x9.2.length (x9.2.map u16v)) (hW : Own w base 9 1 wv U.writes.length (U.writes.map sv)) (hRs : RdC w 0 lo 1 rsv Rs.length (Rs.map sv)) (hlo : lo ≤ base) (hn9 : D.length ≤ 100000 ∧ U.writes.length ≤ 100000 ∧ Rs.length ≤ 100000) : Ret Try.prog 68 #[(ptr r 0), (.int .i64 n), rsv, (.string (bs x))] w (fun v' w' => Gr w w' (fun y => Bl lv y ∨ Bl rv y) ∧ v' = .tuple #[.int .i64 (outE E n U Rs x E.length), .int .i64 0] ∧ ((outE E n U Rs x E.length ≠ 1 ∧ Own w' base 177 6 lv E.length (E.flatMap cellsRE) ∧ Own w' base 181 2 rv D.length (D.flatMap cellsRd)) ∨ (outE E n U Rs x E.length = 1 ∧ ∃ rv' wv', Own w' base 177 6 lv E.length ((E.set m ((n, askRT U Rs x), ⟨la, rv', wv', (D ++ (Rs.take Rs.length).map (fun s => (⟨s, la, U.label⟩ : RD)))⟩)).flatMap cellsRE) ∧ Own w' base 181 2 rv' (D ++ (Rs.take Rs.length).map (fun s => (⟨s, la, U.label⟩ : RD))).length ((D ++ (Rs.take Rs.length).map (fun s => (⟨s, la, U.label⟩ : RD))).flatMap cellsRd) ∧ (∀ y, Bl rv' y → Bl rv y ∨ w.heap.size ≤ y) ∧ Own w' base 9 1 wv' (gotW U x).length ((gotW U x).map sv) ∧ (wv' = wv ∨ ∀ y, Bl wv' y → w.heap.size ≤ y)))) := by
 have hi_r := hx.lt
 have hn : (E.getD m default).1.1 = n := by rw [hej]
 have hUl : U.label.length ≤ 8 := by have := (hE8 _ (getD_mem (d := default) hj)).1; rw [hej] at this; exact this
 have hb := Gr.refl w (fun y => Bl lv y ∨ Bl rv y)
 refine enter (N := 143) Try.func68 rfl rfl (by simp) fun a hN hd hA => ?_
 have c : a.tmps.getD 0 undef = (ptr r 0) := hA 0 (by simp)
 have f : a.tmps.getD 1 undef = (.int .i64 n) := hA 1 (by simp)
 have g : a.tmps.getD 2 undef = rsv := hA 2 (by simp)
 have l : a.tmps.getD 3 undef = (.string (bs x)) := hA 3 (by simp)
 clear hA
 refine zF fun _ o => zH (zD rfl (zD rfl ?_))
 refine zB (o _ _ (zF fun _ o => zH (zG (zC hN rfl c) (zG (zC hN rfl f) (zj ok110 (Find_hit9 (j := m) zx hx O zx hj hn hu) ⟨(zA hN rfl), ⟨(zA hN rfl), trivial⟩⟩ ?_)))))
 rintro _ t ⟨p, rfl⟩
 have p := zQ p
 obtain ⟨hb, _⟩ := yG hb p
 have hx := hx.keep0 p
 have O := O.keep0 p
 have hA9 := hA9.kz p
 have hLa := hLa.keep0 p
 have hR := hR.keep0 p
 have hD := all9 hD fun _ h => h.keep0 p
 have hW := hW.keep0 p
 have hRs := hRs.keep0 p
 refine zD (zA hN rfl) (zB (o _ _ (zF fun _ o => zF fun _ z => zH (zG (zA hN rfl) (op_lss (zA hN rfl) rfl (fun A => ?_) (fun A => ?_))))))
 ·
  exact absurd A zx
 refine zB (z _ _ (wp_cond_false (zA hN rfl) (wp_skip (o _ _ (zF fun _ o => zH (zG (zC hN rfl c) (op_nil (zA hN rfl) (zM fld117_0 (zA hN rfl) (zN one115 (zA hN rfl) (hx.cell rfl) (zG (zA hN rfl) (zh slt115 (zA hN rfl) O.rdw (zA hN rfl) zx zx ?_)))))))))))
 intro G H C F B
 refine zX (cs := [(.int .i64 n), la, (.int .u64 U.stamp), rv, wv, (.bool U.doomed)]) agg177 rfl (zA hN rfl) (fun j u hu => B j u (by have := (List.getElem?_eq_some_iff.1 hu).1; simpa using this) ((el_reJ (i := m) hej zx zx) j u hu)) (op_alloc (cs := [(.int .i64 0), (.slice none 0 0), (.int .u64 0), (.slice none 0 0), (.slice none 0 0), (.bool false)]) zero177 rfl ?_)
 intro M J L P I K
 have Q : ¬ FA J := fun hf => by have := (hA9.lt _ hf).2; omega
 have R : lv.ownBlock ≠ some J := fun hh => by have := (O.lt _ hh).2; omega
 obtain ⟨hb, _⟩ := yG hb K
 have hx := hx.keep0 K
 have hLa := hLa.keep0 K
 have hR := hR.keep0 K
 have hD := all9 hD fun _ h => h.keep0 K
 have hW := hW.keep0 K
 have S := I
 refine zZ size177 (zA hN rfl) (zA hN rfl) rfl (by simp only [yA, yB, yC, yD, hLa.one, hR.one, hW.one]; try rfl) I rfl ?_
 intro V I T
 have := T.size
 have hx := hx.keep T (sN hx S)
 have O := (O.keep0 K).keep T (.inr R)
 have hA9 := (hA9.kz K).keepG (Gr.of T) (Dj.one Q)
 have hLa := hLa.keepX S T zz
 have hR := hR.keepX S T zz
 have hD := all9 hD fun _ h => h.keepX S T zz
 have hW := hW.keepX S T zz
 have hRs := (hRs.keep0 K).keep T sR
 have hb := hb.step1 T zx
 refine zB (o _ _ (zF fun _ o => ?_))
 refine zH (zD rfl (zB (o _ _ (zF fun _ o => zF fun _ z => zH (zD rfl (zB (z _ _ (wp_block (loop_m (fun mz_ az_ w' => ∃ (i : Nat), mz_ = E.length - i ∧ (Sl az_ 0 (ptr r 0)) ∧ (Sl az_ 2 rsv) ∧ (Sl az_ 3 (.string (bs x))) ∧ (Sl az_ 8 (.int .i64 0)) ∧ (Sl az_ 9 (.int .i64 0)) ∧ (Sl az_ 10 (.int .i64 ((m : Nat) : Int))) ∧ (Sl az_ 11 (ptr J 0)) ∧ (Sl az_ 13 (.int .i64 ((i : Nat) : Int))) ∧ (Sl az_ 12 (.int .i64 (outE E n U Rs x i))) ∧ (i ≤ E.length) ∧ (Gr w w' (fun y => Bl lv y ∨ Bl rv y)) ∧ (V.heap.size ≤ w'.heap.size) ∧ (Bx w' r 117 [lv]) ∧ (Own w' base 177 6 lv E.length (E.flatMap cellsRE)) ∧ (RfAll w' base w.heap.size E FA) ∧ (Own w' base 46 1 la U.label.length (U.label.map u16v)) ∧ (Own w' base 181 2 rv D.length (D.flatMap cellsRd)) ∧ (∀ x9 ∈ (D.map rdL), Own w' base 46 1 x9.1 x9.2.length (x9.2.map u16v)) ∧ (Own w' base 9 1 wv U.writes.length (U.writes.map sv)) ∧ (RdC w' 0 lo 1 rsv Rs.length (Rs.map sv)) ∧ (Bx w' J 177 [(.int .i64 n), la, (.int .u64 U.stamp), rv, wv, (.bool U.doomed)])) _ hN hd ⟨0, rfl, (zL hN rfl c), (zL hN rfl g), (zL hN rfl l), (zU hN rfl), (zU hN rfl), (zU hN rfl), (zU hN rfl), (zU hN rfl), (zU hN rfl), (Nat.zero_le _), hb, (Nat.le_refl _), hx, O, hA9, hLa, hR, hD, hW, hRs, I⟩ ?_)))))))))
 rintro _ aj ah W ab ⟨i, rfl, Y, ag, X, ae, af, ad, aa, Z, ac, hi, hb, ai, hx, O, hA9, hLa, hR, hD, hW, hRs, I⟩
 have := hb.size
 refine zF fun _ z => zF fun _ J2 => zH (zG (zC W rfl Z) (zG (zC W rfl Y) (op_nil (zA W rfl) (zM fld117_0 (zA W rfl) (zN one115 (zA W rfl) (hx.cell rfl) (op_len_rd Try.underlying115 (zA W rfl) O.rdw (op_lss (zA W rfl) (zA W rfl) (fun ak => ?_) (fun ak => ?_))))))))
 ·
  refine zB (J2 _ _ (wp_cond_true (zA W rfl) (wp_skip (z _ _ (zF fun _ z => wp_block (zF fun _ J2 => zH ?_))))))
  have al : i < E.length := by omega
  obtain ⟨hLi, hRi, hDi, hWi, hDe⟩ := hA9.rds al
  have am := hE8 _ (getD_mem (d := default) al)
  have an := am.1
  refine zG (zC W rfl Y) (op_nil (zA W rfl) (zM fld117_0 (zA W rfl) (zN one115 (zA W rfl) (hx.cell rfl) (zG (zC W rfl Z) (zh slt115 (zA W rfl) O.rdw (zA W rfl) zx zx ?_)))))
  intro aq ap ar ao an
  refine zX (cs := [(.int .i64 (E.getD i default).1.1), (E.getD i default).2.la, (.int .u64 (E.getD i default).1.2.stamp), (E.getD i default).2.rv, (E.getD i default).2.wv, (.bool (E.getD i default).1.2.doomed)]) agg177 rfl (zA W rfl) (fun j u hu => an j u (by have := (List.getElem?_eq_some_iff.1 hu).1; simpa using this) ((el_re (i := i) zx zx) j u hu)) (op_alloc (cs := [(.int .i64 0), (.slice none 0 0), (.int .u64 0), (.slice none 0 0), (.slice none 0 0), (.bool false)]) zero177 rfl ?_)
  intro aq ap au ar an ao
  have aq : ¬ FA ap := fun hf => by have := (hA9.lt _ hf).2; omega
  have ar : lv.ownBlock ≠ some ap := fun hh => by have := (O.lt _ hh).2; omega
  obtain ⟨hb, _⟩ := yG hb ao
  have hx := hx.keep0 ao
  have hD := all9 hD fun _ h => h.keep0 ao
  have hLi := hLi.keep0 ao
  have hRi := hRi.keep0 ao
  have hDi := all9 hDi fun _ h => h.keep0 ao
  have hWi := hWi.keep0 ao
  have au := an
  refine zZ size177 (zA W rfl) (zA W rfl) rfl (by simp only [yA, yB, yC, yD, hLi.one, hRi.one, hWi.one]; try rfl) an rfl ?_
  intro aw an av
  have := av.size
  have hx := hx.keep av (sN hx au)
  have O := (O.keep0 ao).keep av (.inr ar)
  have hA9 := (hA9.kz ao).keepG (Gr.of av) (Dj.one aq)
  have hLa := (hLa.keep0 ao).keepX au av zz
  have hR := (hR.keep0 ao).keepX au av zz
  have hD := all9 hD fun _ h => h.keepX au av zz
  have hW := (hW.keep0 ao).keepX au av zz
  have hRs := (hRs.keep0 ao).keep av sR
  have I := (I.keep0 ao).keep av sB
  have hLi := hLi.keep av sR
  have hRi := hRi.keep av sR
  have hDi := all9 hDi fun _ h => h.keep av sR
  have hWi := hWi.keep av sR
  have hb := hb.step1 av zx
  refine zB (J2 _ _ (zF fun _ J2 => zF fun _ J3 => zH (zG (zC W rfl Z) (zG (zC W rfl ad) (op_eql (zA W rfl) (zA W rfl) (fun ao => ?_) (fun ao => ?_))))))
  ·
   refine zG (zA W rfl) (zR (j := 3) (dj := 49) (b := false) rfl rfl rfl (zA W rfl) rfl rfl (zR (j := 3) (dj := 49) (b := false) rfl rfl rfl (zA W rfl) rfl rfl (zR (j := 3) (dj := 49) (b := false) rfl rfl rfl (zA W rfl) rfl rfl (zR (j := 3) (dj := 49) (b := false) rfl rfl rfl (zA W rfl) rfl rfl ?_))))
   refine zR (j := 3) (dj := 49) (b := false) rfl rfl rfl (zA W rfl) rfl rfl (zR (j := 3) (dj := 49) (b := false) rfl rfl rfl (zA W rfl) rfl rfl (zc (zA W rfl) rfl (zB (J3 _ _ (wp_cond_true (zA W rfl) (wp_exit (then_exit (blk_hit (z _ _ (zH (zG (zC W rfl Z) (op_add (zA W rfl) rfl (add64 zx) (zD (zA W rfl) (zB ?_))))))))))))))
   -- round 22F 36T 48T
   exact zg _ W ab ⟨(i + 1), rfl, (zL W rfl Y), (zL W rfl ag), (zL W rfl X), (zL W rfl ae), (zL W rfl af), (zL W rfl ad), (zL W rfl aa), (zU W rfl).trans (congrArg (Value.int .i64) zx), (zL W rfl ac).trans (congrArg (Value.int .i64) (outE_no al (by unfold wB wayB; rw [decide_eq_false (fun h9 => h9 (by rw [show i = m by omega, hej])), Bool.false_and, Bool.false_and])).symm), zx, hb, zx, hx, O, hA9, hLa, hR, hD, hW, hRs, I⟩ zx
  refine zG (zA W rfl) (zS (j := 3) (dj := 49) (b := false) rfl rfl rfl (zA W rfl) (zM fld177_1 (zA W rfl) (zS (j := 3) (dj := 49) (b := false) rfl rfl rfl (zA W rfl) (zN one54 (zA W rfl) (an.cell rfl) ?_))))
  refine zS (j := 3) (dj := 49) (b := false) rfl rfl rfl (zA W rfl) (zM fld177_1 (zC W rfl aa) (zS (j := 3) (dj := 49) (b := false) rfl rfl rfl (zA W rfl) (zN one54 (zA W rfl) (I.cell rfl) (zS (j := 3) (dj := 49) (b := false) rfl rfl rfl (zA W rfl) (zj ok34 (sameL_ret (E.getD i default).1.2.label U.label _ _ _ (by first | assumption | omega | (simp only [List.length_append, List.length_cons, List.length_nil, List.length_drop, List.length_take]; omega) | (dsimp only; omega) | decide | (simp [keyV, be8_len]; done)) (by first | assumption | omega | (simp only [List.length_append, List.length_cons, List.length_nil, List.length_drop, List.length_take]; omega) | (dsimp only; omega) | decide | (simp [keyV, be8_len]; done)) (show RdC aw 0 aw.heap.size 1 (E.getD i default).2.la (E.getD i default).1.2.label.length ((E.getD i default).1.2.label.map u16v) from by have hh : RdC aw 0 aw.heap.size 1 _ _ _ := (hLi.mono (L' := 0) (B' := aw.heap.size) (Nat.zero_le _) zx); first | exact hh | exact hh.cast (by first | omega | (simp; try omega)) (by first | rfl | simp [u16v])) (show RdC aw 0 aw.heap.size 1 la U.label.length (U.label.map u16v) from by have hh : RdC aw 0 aw.heap.size 1 _ _ _ := (hLa.rdw.mono (L' := 0) (B' := aw.heap.size) (Nat.zero_le _) zx); first | exact hh | exact hh.cast (by first | omega | (simp; try omega)) (by first | rfl | simp [u16v]))) ⟨(zA W rfl), ⟨(zA W rfl), trivial⟩⟩ ?_)))))
  rintro _ ar ⟨aq, rfl⟩
  have aq := zQ aq
  obtain ⟨hb, _⟩ := yG hb aq
  have hx := hx.keep0 aq
  have O := O.keep0 aq
  have hA9 := hA9.kz aq
  have hLa := hLa.keep0 aq
  have hR := hR.keep0 aq
  have hD := all9 hD fun _ h => h.keep0 aq
  have hW := hW.keep0 aq
  have hRs := hRs.keep0 aq
  have I := I.keep0 aq
  have hLi := hLi.keep0 aq
  have hRi := hRi.keep0 aq
  have hDi := all9 hDi fun _ h => h.keep0 aq
  have hWi := hWi.keep0 aq
  have an := an.keep0 aq
  rcases Bool.eq_false_or_eq_true ((decide ((E.getD i default).1.2.label = U.label))) with aq | aq
  ·
   rw [aq]
   refine zS (j := 3) (dj := 49) (b := false) rfl rfl rfl (zA W rfl) (op_not (zA W rfl) (zd (zA W rfl) (zA W rfl) (zB (J3 _ _ (wp_cond_false (zA W rfl) (wp_skip (J2 _ _ (seq_join1 (N := 143) (fun az_ w' => (Sl az_ 0 (ptr r 0)) ∧ (Sl az_ 2 rsv) ∧ (Sl az_ 3 (.string (bs x))) ∧ (Sl az_ 8 (.int .i64 0)) ∧ (Sl az_ 9 (.int .i64 0)) ∧ (Sl az_ 10 (.int .i64 ((m : Nat) : Int))) ∧ (Sl az_ 11 (ptr J 0)) ∧ (Sl az_ 12 (.int .i64 (outE E n U Rs x i))) ∧ (Sl az_ 13 (.int .i64 ((i : Nat) : Int))) ∧ (Sl az_ 14 (ptr ap 0)) ∧ (Sl az_ 15 (.bool (stK (E.getD i default).1.2.writes ((E.getD i default).2.D.map rOf) Rs x U.label 0))) ∧ (Gr w w' (fun y => Bl lv y ∨ Bl rv y)) ∧ (ar.heap.size ≤ w'.heap.size) ∧ (Bx w' r 117 [lv]) ∧ (Own w' base 177 6 lv E.length (E.flatMap cellsRE)) ∧ (RfAll w' base w.heap.size E FA) ∧ (Own w' base 46 1 la U.label.length (U.label.map u16v)) ∧ (Own w' base 181 2 rv D.length (D.flatMap cellsRd)) ∧ (∀ x9 ∈ (D.map rdL), Own w' base 46 1 x9.1 x9.2.length (x9.2.map u16v)) ∧ (Own w' base 9 1 wv U.writes.length (U.writes.map sv)) ∧ (RdC w' 0 lo 1 rsv Rs.length (Rs.map sv)) ∧ (Bx w' J 177 [(.int .i64 n), la, (.int .u64 U.stamp), rv, wv, (.bool U.doomed)]) ∧ (RdC w' 0 w.heap.size 1 (E.getD i default).2.la (E.getD i default).1.2.label.length ((E.getD i default).1.2.label.map u16v)) ∧ (RdC w' 0 w.heap.size 2 (E.getD i default).2.rv (E.getD i default).2.D.length ((E.getD i default).2.D.flatMap cellsRd)) ∧ (∀ x9 ∈ ((E.getD i default).2.D.map rdL), RdC w' 0 w.heap.size 1 x9.1 x9.2.length (x9.2.map u16v)) ∧ (RdC w' 0 w.heap.size 1 (E.getD i default).2.wv (E.getD i default).1.2.writes.length ((E.getD i default).1.2.writes.map sv)) ∧ (Bx w' ap 177 [(.int .i64 (E.getD i default).1.1), (E.getD i default).2.la, (.int .u64 (E.getD i default).1.2.stamp), (E.getD i default).2.rv, (E.getD i default).2.wv, (.bool (E.getD i default).1.2.doomed)])) (fun au => ?_) ?_))))))))
   ·
    refine zF fun _ J2 => zH (zG (zC W rfl X) (op_sneq (zA W rfl) rfl (fun ar => ?_) (fun ar => ?_)))
    ·
     refine zG (zA W rfl) (zS (j := 2) (dj := 59) (b := true) rfl rfl rfl (zA W rfl) (zM fld177_4 (zA W rfl) ?_))
     refine zS (j := 2) (dj := 59) (b := true) rfl rfl rfl (zA W rfl) (zN one26 (zA W rfl) (an.cell rfl) (zS (j := 2) (dj := 59) (b := true) rfl rfl rfl (zA W rfl) (zG (zC W rfl X) (zS (j := 2) (dj := 59) (b := true) rfl rfl rfl (zA W rfl) (ze (vs := [(E.getD i default).2.wv, (.string (bs x))]) ok113 ⟨(zA W rfl), ⟨(zA W rfl), trivial⟩⟩ (has9 (hWi.mono (Nat.zero_le _) zx)) ?_)))))
     rintro _ aw ⟨av, rfl⟩
     have av := zQ av
     obtain ⟨hb, _⟩ := yG hb av
     have hx := hx.keep0 av
     have O := O.keep0 av
     have hA9 := hA9.kz av
     have hLa := hLa.keep0 av
     have hR := hR.keep0 av
     have hD := all9 hD fun _ h => h.keep0 av
     have hW := hW.keep0 av
     have hRs := hRs.keep0 av
     have I := I.keep0 av
     have hLi := hLi.keep0 av
     have hRi := hRi.keep0 av
     have hDi := all9 hDi fun _ h => h.keep0 av
     have hWi := hWi.keep0 av
     have an := an.keep0 av
     rcases Bool.eq_false_or_eq_true ((writB (E.getD i default).1.2.writes x)) with av | av
     ·
      rw [av]
      refine zS (j := 2) (dj := 59) (b := true) rfl rfl rfl (zA W rfl) (zG (zA W rfl) (zR (j := 7) (dj := 64) (b := false) rfl rfl rfl (zA W rfl) rfl rfl ?_))
      refine zR (j := 7) (dj := 64) (b := false) rfl rfl rfl (zA W rfl) rfl rfl (zR (j := 7) (dj := 64) (b := false) rfl rfl rfl (zA W rfl) rfl rfl (zR (j := 7) (dj := 64) (b := false) rfl rfl rfl (zA W rfl) rfl rfl (zR (j := 7) (dj := 64) (b := false) rfl rfl rfl (zA W rfl) rfl rfl (zS (j := 2) (dj := 59) (b := true) rfl rfl rfl (zA W rfl) (zc (zA W rfl) rfl (zc (zA W rfl) (zA W rfl) (zD (zA W rfl) (zB (J2 _ _ ?_)))))))))
      exact au _ _ _ W ab ⟨(zL W rfl Y), (zL W rfl ag), (zL W rfl X), (zL W rfl ae), (zL W rfl af), (zL W rfl ad), (zL W rfl aa), (zL W rfl ac), (zL W rfl Z), (zU W rfl), (zU W rfl).trans (congrArg Value.bool (by unfold stK; rw [decide_eq_true ar, av]; rfl)), hb, zx, hx, O, hA9, hLa, hR, hD, hW, hRs, I, hLi, hRi, hDi, hWi, an⟩
     rw [av]
     refine zS (j := 2) (dj := 59) (b := true) rfl rfl rfl (zA W rfl) (zG (zA W rfl) (zS (j := 7) (dj := 64) (b := false) rfl rfl rfl (zA W rfl) (zY agg177 rfl (zA W rfl) an (zS (j := 7) (dj := 64) (b := false) rfl rfl rfl (zA W rfl) (zG (zC W rfl X) ?_)))))
     refine zS (j := 7) (dj := 64) (b := false) rfl rfl rfl (zA W rfl) (zM fld177_1 (zC W rfl aa) (zS (j := 7) (dj := 64) (b := false) rfl rfl rfl (zA W rfl) (zN one54 (zA W rfl) (I.cell rfl) (zS (j := 7) (dj := 64) (b := false) rfl rfl rfl (zA W rfl) (zj ok111 (covers9 (hRi.mono (Nat.zero_le _) zx) (fun x9 aw => (hDi x9 aw).mono (Nat.zero_le _) (by have := hb.size; omega)) am.2 (hLa.rdw.mono (Nat.zero_le _) zx) zx) ⟨(zA W rfl), ⟨(zA W rfl), ⟨(zA W rfl), trivial⟩⟩⟩ ?_)))))
     rintro _ aw ⟨am, rfl⟩
     have am := zQ am
     obtain ⟨hb, _⟩ := yG hb am
     have hx := hx.keep0 am
     have O := O.keep0 am
     have hA9 := hA9.kz am
     have hLa := hLa.keep0 am
     have hR := hR.keep0 am
     have hD := all9 hD fun _ h => h.keep0 am
     have hW := hW.keep0 am
     have hRs := hRs.keep0 am
     have I := I.keep0 am
     have hLi := hLi.keep0 am
     have hRi := hRi.keep0 am
     have hDi := all9 hDi fun _ h => h.keep0 am
     have hWi := hWi.keep0 am
     have an := an.keep0 am
     rcases Bool.eq_false_or_eq_true ((covB ((E.getD i default).2.D.map rOf) x U.label)) with am | am
     ·
      rw [am]
      refine zS (j := 2) (dj := 59) (b := true) rfl rfl rfl (zA W rfl) (zd (zA W rfl) (zA W rfl) (zc (zA W rfl) (zA W rfl) (zD (zA W rfl) (zB (J2 _ _ ?_)))))
      exact au _ _ _ W ab ⟨(zL W rfl Y), (zL W rfl ag), (zL W rfl X), (zL W rfl ae), (zL W rfl af), (zL W rfl ad), (zL W rfl aa), (zL W rfl ac), (zL W rfl Z), (zU W rfl), (zU W rfl).trans (congrArg Value.bool (by unfold stK; rw [decide_eq_true ar, av, am]; rfl)), hb, zx, hx, O, hA9, hLa, hR, hD, hW, hRs, I, hLi, hRi, hDi, hWi, an⟩
     rw [am]
     refine zS (j := 2) (dj := 59) (b := true) rfl rfl rfl (zA W rfl) (zd (zA W rfl) (zA W rfl) (zc (zA W rfl) (zA W rfl) (zD (zA W rfl) (zB (J2 _ _ ?_)))))
     exact au _ _ _ W ab ⟨(zL W rfl Y), (zL W rfl ag), (zL W rfl X), (zL W rfl ae), (zL W rfl af), (zL W rfl ad), (zL W rfl aa), (zL W rfl ac), (zL W rfl Z), (zU W rfl), (zU W rfl).trans (congrArg Value.bool (by unfold stK; rw [decide_eq_true ar, av, am]; rfl)), hb, zx, hx, O, hA9, hLa, hR, hD, hW, hRs, I, hLi, hRi, hDi, hWi, an⟩
    refine zG (zA W rfl) (zR (j := 2) (dj := 59) (b := true) rfl rfl rfl (zA W rfl) rfl rfl (zR (j := 2) (dj := 59) (b := true) rfl rfl rfl (zA W rfl) rfl rfl (zR (j := 2) (dj := 59) (b := true) rfl rfl rfl (zA W rfl) rfl rfl (zR (j := 2) (dj := 59) (b := true) rfl rfl rfl (zA W rfl) rfl rfl (zR (j := 2) (dj := 59) (b := true) rfl rfl rfl (zA W rfl) rfl rfl ?_)))))
    refine g_undef (j := 7) (dj := 64) (b := false) rfl rfl rfl (zA W rfl) rfl (g_undef (j := 7) (dj := 64) (b := false) rfl rfl rfl (zA W rfl) rfl (g_undef (j := 7) (dj := 64) (b := false) rfl rfl rfl (zA W rfl) rfl (g_undef (j := 7) (dj := 64) (b := false) rfl rfl rfl (zA W rfl) rfl (g_undef (j := 7) (dj := 64) (b := false) rfl rfl rfl (zA W rfl) rfl (zR (j := 2) (dj := 59) (b := true) rfl rfl rfl (zA W rfl) rfl rfl (zd (zA W rfl) rfl (zD (zA W rfl) (zB (J2 _ _ ?_)))))))))
    exact au _ _ _ W ab ⟨(zL W rfl Y), (zL W rfl ag), (zL W rfl X), (zL W rfl ae), (zL W rfl af), (zL W rfl ad), (zL W rfl aa), (zL W rfl ac), (zL W rfl Z), (zU W rfl), (zU W rfl).trans (congrArg Value.bool (by unfold stK; rw [decide_eq_false (fun h => h ar)]; rfl)), hb, zx, hx, O, hA9, hLa, hR, hD, hW, hRs, I, hLi, hRi, hDi, hWi, an⟩
   rintro aH aE am aD ⟨av, aC, aw, au, ay, ax, aF, aB, ar, aG, az, hb, aI, hx, O, hA9, hLa, hR, hD, hW, hRs, I, hLi, hRi, hDi, hWi, an⟩
   have := hb.size
   refine zF fun _ J2 => zF fun _ J3 => zH (zD rfl (zB (J3 _ _ (wp_block ?_))))
   refine loop_m (fun mz_ az_ w' => ∃ (k : Nat), mz_ = Rs.length - k ∧ (Sl az_ 0 (ptr r 0)) ∧ (Sl az_ 2 rsv) ∧ (Sl az_ 3 (.string (bs x))) ∧ (Sl az_ 8 (.int .i64 0)) ∧ (Sl az_ 9 (.int .i64 0)) ∧ (Sl az_ 10 (.int .i64 ((m : Nat) : Int))) ∧ (Sl az_ 11 (ptr J 0)) ∧ (Sl az_ 12 (.int .i64 (outE E n U Rs x i))) ∧ (Sl az_ 13 (.int .i64 ((i : Nat) : Int))) ∧ (Sl az_ 14 (ptr ap 0)) ∧ (Sl az_ 16 (.int .i64 ((k : Nat) : Int))) ∧ (Sl az_ 15 (.bool (stK (E.getD i default).1.2.writes ((E.getD i default).2.D.map rOf) Rs x U.label k))) ∧ (k ≤ Rs.length) ∧ (Gr w w' (fun y => Bl lv y ∨ Bl rv y)) ∧ (aE.heap.size ≤ w'.heap.size) ∧ (Bx w' r 117 [lv]) ∧ (Own w' base 177 6 lv E.length (E.flatMap cellsRE)) ∧ (RfAll w' base w.heap.size E FA) ∧ (Own w' base 46 1 la U.label.length (U.label.map u16v)) ∧ (Own w' base 181 2 rv D.length (D.flatMap cellsRd)) ∧ (∀ x9 ∈ (D.map rdL), Own w' base 46 1 x9.1 x9.2.length (x9.2.map u16v)) ∧ (Own w' base 9 1 wv U.writes.length (U.writes.map sv)) ∧ (RdC w' 0 lo 1 rsv Rs.length (Rs.map sv)) ∧ (Bx w' J 177 [(.int .i64 n), la, (.int .u64 U.stamp), rv, wv, (.bool U.doomed)]) ∧ (RdC w' 0 w.heap.size 1 (E.getD i default).2.la (E.getD i default).1.2.label.length ((E.getD i default).1.2.label.map u16v)) ∧ (RdC w' 0 w.heap.size 2 (E.getD i default).2.rv (E.getD i default).2.D.length ((E.getD i default).2.D.flatMap cellsRd)) ∧ (∀ x9 ∈ ((E.getD i default).2.D.map rdL), RdC w' 0 w.heap.size 1 x9.1 x9.2.length (x9.2.map u16v)) ∧ (RdC w' 0 w.heap.size 1 (E.getD i default).2.wv (E.getD i default).1.2.writes.length ((E.getD i default).1.2.writes.map sv)) ∧ (Bx w' ap 177 [(.int .i64 (E.getD i default).1.1), (E.getD i default).2.la, (.int .u64 (E.getD i default).1.2.stamp), (E.getD i default).2.rv, (E.getD i default).2.wv, (.bool (E.getD i default).1.2.doomed)])) _ am aD ⟨0, rfl, (zL am rfl av), (zL am rfl aC), (zL am rfl aw), (zL am rfl au), (zL am rfl ay), (zL am rfl ax), (zL am rfl aF), (zL am rfl aB), (zL am rfl ar), (zL am rfl aG), (zU am rfl), (zL am rfl az), (Nat.zero_le _), hb, (Nat.le_refl _), hx, O, hA9, hLa, hR, hD, hW, hRs, I, hLi, hRi, hDi, hWi, an⟩ ?_
   rintro _ aI aH am aw ⟨k, rfl, aB, ap, av, az, au, ay, ar, aC, ax, aE, aD, aF, hk, hb, aG, hx, O, hA9, hLa, hR, hD, hW, hRs, I, hLi, hRi, hDi, hWi, an⟩
   have := hb.size
   refine zF fun _ J3 => zF fun _ J4 => zH (zG (zC am rfl aD) (zG (zC am rfl ap) (op_len_rd Try.underlying26 (zA am rfl) hRs (op_lss (zA am rfl) (zA am rfl) (fun aG => ?_) (fun aG => ?_)))))
   ·
    refine zB (J4 _ _ (wp_cond_true (zA am rfl) (wp_skip (J3 _ _ (zF fun _ J3 => wp_block (reg_from mixed ?_))))))
    intro aH aG
    obtain ⟨hb, _⟩ := yG hb aG
    have hx := hx.keep0 aG
    have O := O.keep0 aG
    have hA9 := hA9.kz aG
    have hLa := hLa.keep0 aG
    have hR := hR.keep0 aG
    have hD := all9 hD fun _ h => h.keep0 aG
    have hW := hW.keep0 aG
    have hRs := hRs.keep0 aG
    have I := I.keep0 aG
    have hLi := hLi.keep0 aG
    have hRi := hRi.keep0 aG
    have hDi := all9 hDi fun _ h => h.keep0 aG
    have hWi := hWi.keep0 aG
    have an := an.keep0 aG
    refine from_still (m := 8) 8 (hd := [_, _, _, _, _, _, _, _]) zy rfl rfl (st_step rfl (fun _ h9 => zG (zC am rfl aF) h9) ?_)
    rcases Bool.eq_false_or_eq_true ((stK (E.getD i default).1.2.writes ((E.getD i default).2.D.map rOf) Rs x U.label k)) with aG | aG
    ·
     rw [aG]
     refine st_step rfl (fun _ h9 => zG (zA am rfl) h9) (st_g_false (j := 1) (dj := 79) (b := false) rfl rfl rfl (zA am rfl) rfl rfl (st_g_false (j := 1) (dj := 79) (b := false) rfl rfl rfl (zA am rfl) rfl rfl (st_g_false (j := 1) (dj := 79) (b := false) rfl rfl rfl (zA am rfl) rfl rfl (st_g_false (j := 1) (dj := 79) (b := false) rfl rfl rfl (zA am rfl) rfl rfl (st_g_false (j := 1) (dj := 79) (b := false) rfl rfl rfl (zA am rfl) rfl rfl (st_g_false (j := 1) (dj := 79) (b := false) rfl rfl rfl (zA am rfl) rfl rfl (st_nil ?_)))))))
     refine from_seq (tl := [_, _, _]) zz zy rfl (zR (j := 1) (dj := 79) (b := false) rfl rfl rfl (zA am rfl) rfl rfl (zc (zA am rfl) rfl (zD (zA am rfl) (zB (J3 _ _ (zH (zG (zC am rfl aD) (op_add (zA am rfl) rfl (add64 zx) (zD (zA am rfl) (zB ?_))))))))))
     -- round 22F 36T 48F 54T 75T 78T
     exact zg _ am aw ⟨(k + 1), rfl, (zL am rfl aB), (zL am rfl ap), (zL am rfl av), (zL am rfl az), (zL am rfl au), (zL am rfl ay), (zL am rfl ar), (zL am rfl aC), (zL am rfl ax), (zL am rfl aE), (zU am rfl).trans (congrArg (Value.int .i64) zx), (zU am rfl).trans (congrArg Value.bool (by rw [stK_step zx, aG]; rfl)), zx, hb, zx, hx, O, hA9, hLa, hR, hD, hW, hRs, I, hLi, hRi, hDi, hWi, an⟩ zx
    rw [aG]
    refine st_step rfl (fun _ h9 => zG (zA am rfl) h9) ?_
    refine st_g_true (j := 1) (dj := 79) (b := false) rfl rfl rfl (zA am rfl) (st_step rfl (fun _ h9 => zM fld177_4 (zC am rfl aE) h9) (st_g_true (j := 1) (dj := 79) (b := false) rfl rfl rfl (zA am rfl) (st_step rfl (fun _ h9 => zN one26 (zA am rfl) (an.cell rfl) h9) (st_g_true (j := 1) (dj := 79) (b := false) rfl rfl rfl (zA am rfl) (st_step rfl (fun _ h9 => zG (zC am rfl ap) h9) (st_g_true (j := 1) (dj := 79) (b := false) rfl rfl rfl (zA am rfl) (st_step rfl (fun _ h9 => zG (zC am rfl aD) h9) (st_g_true (j := 1) (dj := 79) (b := false) rfl rfl rfl (zA am rfl) (st_index_rd slt26 (zA am rfl) hRs (zA am rfl) zx zx ?_)))))))))
    intro aK aI aJ aL aH
    refine st_g_true (j := 1) (dj := 79) (b := false) rfl rfl rfl (zA am rfl) (st_step rfl (fun _ h9 => zN (v := (Value.string (bs (Rs.getD k [])))) one9 (zA am rfl) (by have := aH 0 (.string (bs (Rs.getD k []))) zz (el_sv (i := k) zx zx); simpa using this) h9) (st_nil (from_seq (tl := [_, _, _]) zz zy rfl (zS (j := 1) (dj := 79) (b := false) rfl rfl rfl (zA am rfl) (ze (vs := [(E.getD i default).2.wv, (.string (bs (Rs.getD k [])))]) ok113 ⟨(zA am rfl), ⟨(zA am rfl), trivial⟩⟩ (has9 (hWi.mono (Nat.zero_le _) zx)) ?_)))))
    rintro _ aI ⟨aH, rfl⟩
    have aH := zQ aH
    obtain ⟨hb, _⟩ := yG hb aH
    have hx := hx.keep0 aH
    have O := O.keep0 aH
    have hA9 := hA9.kz aH
    have hLa := hLa.keep0 aH
    have hR := hR.keep0 aH
    have hD := all9 hD fun _ h => h.keep0 aH
    have hW := hW.keep0 aH
    have hRs := hRs.keep0 aH
    have I := I.keep0 aH
    have hLi := hLi.keep0 aH
    have hRi := hRi.keep0 aH
    have hDi := all9 hDi fun _ h => h.keep0 aH
    have hWi := hWi.keep0 aH
    have an := an.keep0 aH
    rcases Bool.eq_false_or_eq_true ((writB (E.getD i default).1.2.writes (Rs.getD k []))) with aH | aH
    ·
     rw [aH]
     refine zd (zA am rfl) (zA am rfl) (zD (zA am rfl) (zB (J3 _ _ (zH (zG (zC am rfl aD) (op_add (zA am rfl) rfl (add64 zx) (zD (zA am rfl) (zB ?_))))))))
     -- round 22F 36T 48F 54T 75T 78F 86T
     exact zg _ am aw ⟨(k + 1), rfl, (zL am rfl aB), (zL am rfl ap), (zL am rfl av), (zL am rfl az), (zL am rfl au), (zL am rfl ay), (zL am rfl ar), (zL am rfl aC), (zL am rfl ax), (zL am rfl aE), (zU am rfl).trans (congrArg (Value.int .i64) zx), (zU am rfl).trans (congrArg Value.bool (by rw [stK_step zx, aG, aH]; rfl)), zx, hb, zx, hx, O, hA9, hLa, hR, hD, hW, hRs, I, hLi, hRi, hDi, hWi, an⟩ zx
    rw [aH]
    refine zd (zA am rfl) (zA am rfl) (zD (zA am rfl) (zB (J3 _ _ (zH (zG (zC am rfl aD) (op_add (zA am rfl) rfl (add64 zx) (zD (zA am rfl) (zB ?_))))))))
    -- round 22F 36T 48F 54T 75T 78F 86F
    exact zg _ am aw ⟨(k + 1), rfl, (zL am rfl aB), (zL am rfl ap), (zL am rfl av), (zL am rfl az), (zL am rfl au), (zL am rfl ay), (zL am rfl ar), (zL am rfl aC), (zL am rfl ax), (zL am rfl aE), (zU am rfl).trans (congrArg (Value.int .i64) zx), (zU am rfl).trans (congrArg Value.bool (by rw [stK_step zx, aG, aH]; rfl)), zx, hb, zx, hx, O, hA9, hLa, hR, hD, hW, hRs, I, hLi, hRi, hDi, hWi, an⟩ zx
   refine zB (J4 _ _ (wp_cond_false (zA am rfl) (wp_exit (then_exit (then_exit (blk_hit (J2 _ _ (zF fun _ J2 => zH (zG (zC am rfl aF) (zG (zA am rfl) ?_))))))))))
   rcases Bool.eq_false_or_eq_true ((stK (E.getD i default).1.2.writes ((E.getD i default).2.D.map rOf) Rs x U.label k)) with aD | aD
   ·
    rw [aD]
    refine zS (j := 1) (dj := 89) (b := true) rfl rfl rfl (zA am rfl) (zG (zC am rfl aC) (zS (j := 1) (dj := 89) (b := true) rfl rfl rfl (zA am rfl) (op_neq (zA am rfl) rfl (fun aF => ?_) (fun aF => ?_))))
    ·
     refine zc (zA am rfl) (zA am rfl) (zB (J2 _ _ (wp_cond_true (zA am rfl) (zF fun _ J2 => ?_))))
     refine zH (zD rfl (zB (J2 _ _ (zF fun _ J2 => zH (zM fld177_2 (zC am rfl ar) (zN one61 (zA am rfl) (I.cell rfl) (zM fld177_2 (zC am rfl aE) (zN one61 (zA am rfl) (an.cell rfl) (op_geq (zA am rfl) (zA am rfl) (fun aG => ?_) (fun aG => ?_))))))))))
     ·
      refine zB (J2 _ _ (wp_cond_true (zA am rfl) (zH (zD rfl (zB (z _ _ (zH (zG (zC am rfl ax) (op_add (zA am rfl) rfl (add64 zx) (zD (zA am rfl) (zB ?_)))))))))))
      -- round 22F 36T 48F 54T 75F 89T 91T 97T
      exact zg _ am aw ⟨(i + 1), rfl, (zL am rfl aB), (zL am rfl ap), (zL am rfl av), (zL am rfl az), (zL am rfl au), (zL am rfl ay), (zL am rfl ar), (zU am rfl).trans (congrArg (Value.int .i64) zx), (zU am rfl).trans (congrArg (Value.int .i64) (outE_d al (by rw [wD_of (k := k) (fun h9 => ao (by have := hu i al h9; omega)) aq hDe zx, aD, decide_eq_true aG]; rfl)).symm), zx, hb, zx, hx, O, hA9, hLa, hR, hD, hW, hRs, I⟩ zx
     refine zB (J2 _ _ (wp_cond_false (zA am rfl) (wp_skip (z _ _ (zH (zG (zC am rfl ax) (op_add (zA am rfl) rfl (add64 zx) (zD (zA am rfl) (zB ?_)))))))))
     -- round 22F 36T 48F 54T 75F 89T 91T 97F
     exact zg _ am aw ⟨(i + 1), rfl, (zL am rfl aB), (zL am rfl ap), (zL am rfl av), (zL am rfl az), (zL am rfl au), (zL am rfl ay), (zL am rfl ar), (zU am rfl).trans (congrArg (Value.int .i64) zx), (zU am rfl).trans (congrArg (Value.int .i64) (outE_b al (by rw [wB_of (k := k) (fun h9 => ao (by have := hu i al h9; omega)) aq hDe zx, aD]; rfl) (by rw [wD_of (k := k) (fun h9 => ao (by have := hu i al h9; omega)) aq hDe zx, aD, decide_eq_false aG]; rfl) aF).symm), zx, hb, zx, hx, O, hA9, hLa, hR, hD, hW, hRs, I⟩ zx
    refine zc (zA am rfl) (zA am rfl) (zB (J2 _ _ (wp_cond_false (zA am rfl) (wp_skip (z _ _ (zH (zG (zC am rfl ax) (op_add (zA am rfl) rfl (add64 zx) (zD (zA am rfl) (zB ?_))))))))))
    -- round 22F 36T 48F 54T 75F 89T 91F
    exact zg _ am aw ⟨(i + 1), rfl, (zL am rfl aB), (zL am rfl ap), (zL am rfl av), (zL am rfl az), (zL am rfl au), (zL am rfl ay), (zL am rfl ar), (zU am rfl).trans (congrArg (Value.int .i64) zx), (zL am rfl aC).trans (congrArg (Value.int .i64) ((outE_3 al aF).trans aF.symm).symm), zx, hb, zx, hx, O, hA9, hLa, hR, hD, hW, hRs, I⟩ zx
   rw [aD]
   refine zR (j := 1) (dj := 89) (b := true) rfl rfl rfl (zA am rfl) rfl rfl (zR (j := 1) (dj := 89) (b := true) rfl rfl rfl (zA am rfl) rfl rfl (zd (zA am rfl) rfl (zB (J2 _ _ (wp_cond_false (zA am rfl) (wp_skip (z _ _ (zH (zG (zC am rfl ax) (op_add (zA am rfl) rfl (add64 zx) (zD (zA am rfl) (zB ?_))))))))))))
   -- round 22F 36T 48F 54T 75F 89F
   exact zg _ am aw ⟨(i + 1), rfl, (zL am rfl aB), (zL am rfl ap), (zL am rfl av), (zL am rfl az), (zL am rfl au), (zL am rfl ay), (zL am rfl ar), (zU am rfl).trans (congrArg (Value.int .i64) zx), (zL am rfl aC).trans (congrArg (Value.int .i64) (outE_no al (by rw [wB_of (k := k) (fun h9 => ao (by have := hu i al h9; omega)) aq hDe zx, aD]; rfl)).symm), zx, hb, zx, hx, O, hA9, hLa, hR, hD, hW, hRs, I⟩ zx
  rw [aq]
  refine zS (j := 3) (dj := 49) (b := false) rfl rfl rfl (zA W rfl) (op_not (zA W rfl) (zd (zA W rfl) (zA W rfl) (zB (J3 _ _ (wp_cond_true (zA W rfl) (wp_exit (then_exit (blk_hit (z _ _ (zH (zG (zC W rfl Z) (op_add (zA W rfl) rfl (add64 zx) (zD (zA W rfl) (zB ?_))))))))))))))
  -- round 22F 36T 48F 54F
  exact zg _ W ab ⟨(i + 1), rfl, (zL W rfl Y), (zL W rfl ag), (zL W rfl X), (zL W rfl ae), (zL W rfl af), (zL W rfl ad), (zL W rfl aa), (zU W rfl).trans (congrArg (Value.int .i64) zx), (zL W rfl ac).trans (congrArg (Value.int .i64) (outE_no al (by unfold wB wayB; rw [aq, Bool.and_false, Bool.false_and])).symm), zx, hb, zx, hx, O, hA9, hLa, hR, hD, hW, hRs, I⟩ zx
 refine zB (J2 _ _ (wp_cond_false (zA W rfl) (wp_exit (then_exit (then_exit (blk_hit (o _ _ (zF fun _ o => zF fun _ z => zH ?_))))))))
 skip
 refine zG (zC W rfl ac) (op_neq (zA W rfl) rfl (fun al => ?_) (fun al => ?_))
 ·
  refine zB (z _ _ (wp_cond_true (zA W rfl) (zF fun _ z => zH (zG (zC W rfl ac) (zD (zA W rfl) (zD rfl (zB (z _ _ (wp_ret (zO ( (ret2 rfl ab (zA W rfl) (zA W rfl) ⟨_, rfl, ?_⟩))))))))))))
  obtain rfl : i = E.length := by omega
  exact ⟨hb, rfl, .inl ⟨al, O, hR⟩⟩
 refine zB (z _ _ (wp_cond_false (zA W rfl) (wp_skip (o _ _ (zF fun _ o => zF fun _ z => zH (zD rfl (zB (z _ _ (wp_block (loop_m (fun mz_ az_ w' => ∃ (k : Nat) (am : Value), mz_ = Rs.length - k ∧ (Sl az_ 0 (ptr r 0)) ∧ (Sl az_ 2 rsv) ∧ (Sl az_ 3 (.string (bs x))) ∧ (Sl az_ 8 (.int .i64 0)) ∧ (Sl az_ 9 (.int .i64 0)) ∧ (Sl az_ 10 (.int .i64 ((m : Nat) : Int))) ∧ (Sl az_ 11 (ptr J 0)) ∧ (Sl az_ 17 (.int .i64 ((k : Nat) : Int))) ∧ (k ≤ Rs.length) ∧ (∀ y, y < w.heap.size → Bl am y → Bl lv y ∨ Bl rv y) ∧ (Gr w w' (fun y => Bl lv y ∨ Bl rv y)) ∧ (ah.heap.size ≤ w'.heap.size) ∧ (Bx w' r 117 [lv]) ∧ (Own w' base 177 6 lv E.length (E.flatMap cellsRE)) ∧ (Own w' base 46 1 la U.label.length (U.label.map u16v)) ∧ (∀ x9 ∈ (D.map rdL), Own w' base 46 1 x9.1 x9.2.length (x9.2.map u16v)) ∧ (Own w' base 9 1 wv U.writes.length (U.writes.map sv)) ∧ (RdC w' 0 lo 1 rsv Rs.length (Rs.map sv)) ∧ (Bx w' J 177 [(.int .i64 n), la, (.int .u64 U.stamp), am, wv, (.bool U.doomed)]) ∧ (Own w' base 181 2 am (D ++ (Rs.take k).map (fun s => (⟨s, la, U.label⟩ : RD))).length ((D ++ (Rs.take k).map (fun s => (⟨s, la, U.label⟩ : RD))).flatMap cellsRd))) _ W ab ⟨0, rv, rfl, (zL W rfl Y), (zL W rfl ag), (zL W rfl X), (zL W rfl ae), (zL W rfl af), (zL W rfl ad), (zL W rfl aa), (zU W rfl), (Nat.zero_le _), (fun _ _ h => .inr h), hb, (Nat.le_refl _), hx, O, hLa, hD, hW, hRs, I, (hR.cast (by simp) (by simp))⟩ ?_))))))))))
 rintro _ aC aq an av ⟨k, am, rfl, ar, ay, aw, az, aB, au, ap, ax, hk, hrF, hb, aD, hx, O, hLa, hD, hW, hRs, hme, ao⟩
 have := hb.size
 refine zF fun _ z => zF fun _ J2 => zH ?_
 have aE := hLa.sl
 have hdx : (D ++ (Rs.take k).map (fun s => (⟨s, la, U.label⟩ : RD))).length = D.length + k := by simp; omega
 refine zG (zC an rfl ax) (zG (zC an rfl ay) (op_len_rd Try.underlying26 (zA an rfl) hRs (op_lss (zA an rfl) (zA an rfl) (fun aF => ?_) (fun aF => ?_))))
 ·
  refine zB (J2 _ _ (wp_cond_true (zA an rfl) (wp_skip (z _ _ (zF fun _ z => wp_block (reg_split (hd := [_, _, _, _, _, _, _, _, _, _]) (tl := _) 10 mixed zy rfl rfl (any_quiet (Φ := phiL [(fun uz _ => uz = (ptr J 3)), (fun uz _ => uz = am), (fun uz _ => uz = rsv), (fun uz _ => uz = (.int .i64 ((k : Nat) : Int))), (fun uz w' => ∃ (aI : (Nat)) (aG : (Nat)), uz = (ptr aI aG) ∧ PtC w' 0 lo aI aG [(.string (bs (Rs.getD k [])))]), (fun uz _ => uz = (.string (bs (Rs.getD k [])))), (fun uz _ => uz = (ptr J 1)), (fun uz _ => uz = la), (fun uz _ => uz = (.agg #[(.string (bs (Rs.getD k []))), la])), (fun uz w' => ∃ (aH : Nat), uz = (.slice (some ⟨aH, 0, none⟩) 1 1) ∧ aq.heap.size ≤ aH ∧ Bx w' aH 181 [(.string (bs (Rs.getD k []))), la])]) zy zy zy an (StL.get (StL.eq (StL.eq (StL.eq (StL.eq (StL.cons (fun u w1 w2 E h => by obtain ⟨x0, x1, hv, f0⟩ := h; exact ⟨x0, x1, hv, f0.keep0 E⟩) (StL.eq (StL.eq (StL.eq (StL.eq (StL.cons (fun u w1 w2 E h => by obtain ⟨x0, hv, l0, f0⟩ := h; exact ⟨x0, hv, l0, f0.keep0 E⟩) (StL.nil _)))))))))))) (ObL.get (s := 10) (ObL.cons ?_ (ObL.cons ?_ (ObL.cons ?_ (ObL.cons ?_ (ObL.cons ?_ (ObL.cons ?_ (ObL.cons ?_ (ObL.cons ?_ (ObL.cons ?_ (ObL.cons ?_ (ObL.nil))))))))))) rfl) ?_)))))))
  ·
   intro aA wA hNA hRA hbsA hdpA
   have aJ := (hbsA 11 rfl).trans (zL an rfl ap)
   refine zM fld177_3 (zC hNA rfl aJ) ?_
   exact obN_end rfl rfl (grown_refl _ _)
  ·
   intro aA wA hNA hRA hbsA hdpA
   have hRA : aq.grownBy wA none := hRA
   have := hRA.size
   have hme := hme.keep0 hRA
   have aK : Sl aA 107 (ptr J 3) := hdpA 0 _ 107 zy rfl rfl
   clear hbsA hdpA
   refine zN one175 (zC hNA rfl aK) (hme.cell rfl) ?_
   exact obN_end rfl rfl (grown_refl _ _)
  ·
   intro aA wA hNA hRA hbsA hdpA
   have aK := (hbsA 2 rfl).trans (zL an rfl ay)
   refine zG (zC hNA rfl aK) ?_
   exact obN_end rfl rfl (grown_refl _ _)
  ·
   intro aA wA hNA hRA hbsA hdpA
   have aK := (hbsA 17 rfl).trans (zL an rfl ax)
   refine zG (zC hNA rfl aK) ?_
   exact obN_end rfl rfl (grown_refl _ _)
  ·
   intro aA wA hNA hRA hbsA hdpA
   have hRA : aq.grownBy wA none := hRA
   have := hRA.size
   have hRs := hRs.keep0 hRA
   have aK : Sl aA 109 rsv := hdpA 2 _ 109 zy rfl rfl
   have aL : Sl aA 110 (.int .i64 ((k : Nat) : Int)) := hdpA 3 _ 110 zy rfl rfl
   clear hbsA hdpA
   refine zh slt26 (zC hNA rfl aK) hRs (zC hNA rfl aL) zx zx ?_
   intro aI aG aM aL aK
   have aL : PtC wA 0 lo aI aG [(.string (bs (Rs.getD k [])))] := ⟨by omega, by omega, fun j u hu => aK j u (by have := (List.getElem?_eq_some_iff.1 hu).1; simpa using this) ((fun j u hu => one_at (el_sv (i := k) zx zx) hu) j u hu)⟩
   exact obN_end rfl ⟨aI, aG, rfl, aL⟩ (grown_refl _ _)
  ·
   intro aA wA hNA hRA hbsA hdpA
   have hRA : aq.grownBy wA none := hRA
   have := hRA.size
   obtain ⟨aI, aG, aK, aL⟩ := hdpA 4 _ 111 zy rfl rfl
   have aL : PtC wA 0 lo aI aG [(.string (bs (Rs.getD k [])))] := aL
   clear hbsA hdpA
   refine zN (v := (Value.string (bs (Rs.getD k [])))) one9 (zC hNA rfl aK) (aL.2.2 0 _ rfl) ?_
   exact obN_end rfl rfl (grown_refl _ _)
  ·
   intro aA wA hNA hRA hbsA hdpA
   have aJ := (hbsA 11 rfl).trans (zL an rfl ap)
   refine zM fld177_1 (zC hNA rfl aJ) ?_
   exact obN_end rfl rfl (grown_refl _ _)
  ·
   intro aA wA hNA hRA hbsA hdpA
   have hRA : aq.grownBy wA none := hRA
   have := hRA.size
   have hme := hme.keep0 hRA
   have aG : Sl aA 113 (ptr J 1) := hdpA 6 _ 113 zy rfl rfl
   clear hbsA hdpA
   refine zN one54 (zC hNA rfl aG) (hme.cell rfl) ?_
   exact obN_end rfl rfl (grown_refl _ _)
  ·
   intro aA wA hNA hRA hbsA hdpA
   have aG : Sl aA 112 (.string (bs (Rs.getD k []))) := hdpA 5 _ 112 zy rfl rfl
   have aI : Sl aA 114 la := hdpA 7 _ 114 zy rfl rfl
   refine zf (pv := [(0, (.string (bs (Rs.getD k [])))), (1, la)]) (v := (Value.agg #[(.string (bs (Rs.getD k []))), la])) ⟨rfl, (zC hNA rfl aG), ⟨rfl, (zC hNA rfl aI), trivial⟩⟩ (by obtain ⟨_, _, _, rfl⟩ := aE; kernel_rfl) ?_
   exact obN_end rfl rfl (grown_refl _ _)
  ·
   intro aA wA hNA hRA hbsA hdpA
   have hRA : aq.grownBy wA none := hRA
   have := hRA.size
   have hLa := hLa.keep0 hRA
   have aG : Sl aA 115 (.agg #[(.string (bs (Rs.getD k []))), la]) := hdpA 8 _ 115 zy rfl rfl
   clear hbsA hdpA
   refine op_bslice (e := 181) (pv := [(0, (.agg #[(.string (bs (Rs.getD k []))), la]))]) (cs := [(.string (bs (Rs.getD k []))), la]) ⟨rfl, (zC hNA rfl aG), trivial⟩ (by obtain ⟨_, _, _, rfl⟩ := hLa.sl; kernel_rfl) ?_
   intro aK aH aL aJ aG aI
   have := aI.size
   exact obN_end rfl ⟨aH, rfl, zx, aG⟩ (aI)
  intro aP aO aI aM aL aN aK
  have aM := aM.trans av
  have aQ := (aL 0 rfl).trans (zL an rfl ar)
  have aR := (aL 2 rfl).trans (zL an rfl ay)
  have aS := (aL 3 rfl).trans (zL an rfl aw)
  have aT := (aL 8 rfl).trans (zL an rfl az)
  have aU := (aL 9 rfl).trans (zL an rfl aB)
  have aV := (aL 10 rfl).trans (zL an rfl au)
  have aW := (aL 11 rfl).trans (zL an rfl ap)
  have aX := (aL 17 rfl).trans (zL an rfl ax)
  have aY : Sl aP 108 am := aN 1 _ 108 rfl rfl
  obtain ⟨aH, aP, aZ, aG⟩ := aN 9 _ 116 rfl rfl
  have aG : Bx aO aH 181 [(.string (bs (Rs.getD k []))), la] := aG
  have aJ := aG.lt
  clear aL aN
  have aK : aq.grownBy aO none := aK
  obtain ⟨hb, _⟩ := yG hb aK
  have hLa := hLa.keep0 aK
  have hD := all9 hD fun _ h => h.keep0 aK
  have ao := ao.keep0 aK
  refine split_end (from_seq (tl := [_, _, _]) zz zy rfl ?_)
  have aH := ao
  refine op_append slt175 (zC aI rfl aY) aH (zC aI rfl aP) (Src.ofRd Try.underlying175 zz (RdC.ofBx (sz := 2) (n := 1) aG rfl zz) (by simp only [yA, yB, yC, yD, hLa.one]; try rfl)) (by unfold maxLen; omega) zx (by first | exact Nat.le_trans (by assumption) hb.size | (have := hb.size; omega)) ?_
  intro aL aN aJ aG aO
  have := aG.size
  have hx := (hx.keep0 aK).keepO aH aG zz
  have hD := all9 hD fun _ h => h.keepT aH aG zz
  have hme := (hme.keep0 aK).keepO aH aG zz
  have hb := hb.stepL aG hrF
  have aJ : Own aN base 181 2 aL ((D ++ (Rs.take k).map (fun s => (⟨s, la, U.label⟩ : RD))).length + 1) (((D ++ (Rs.take k).map (fun s => (⟨s, la, U.label⟩ : RD))).flatMap cellsRd ++ [(.string (bs (Rs.getD k []))), la])) := by simpa [u8v, u16v, sv] using aJ
  refine zM fld177_3 (zC aI rfl aW) ?_
  have hme_old := hme
  refine za (vs := [aL]) (cs' := [(.int .i64 n), la, (.int .u64 U.stamp), aL, wv, (.bool U.doomed)]) size175 (zA aI rfl) (zA aI rfl) aJ.cl rfl (by simp only [yA, yB, yC, yD, aJ.one]; try rfl) hme (zI rfl) rfl ?_
  intro aP hme aN
  have := aN.size
  have hx := hx.keep aN (sN hx hme_old)
  have O := ((O.keep0 aK).keepT aH aG zz).keep aN (.inr R)
  have hLa := (hLa.keepT aH aG zz).keepX hme_old aN zz
  have hD := all9 hD fun _ h => h.keepX hme_old aN zz
  have hW := ((hW.keep0 aK).keepT aH aG zz).keepX hme_old aN zz
  have hRs := ((hRs.keep0 aK).keepO aH aG zx).keep aN sR
  have aJ := aJ.keepX hme_old aN zz
  have hb := hb.step1 aN zx
  refine zB (z _ _ (zH (zG (zC aI rfl aX) (op_add (zA aI rfl) rfl (add64 zx) (zD (zA aI rfl) (zB ?_))))))
  -- round 22F 36F 99F 104T
  exact zg _ aI aM ⟨(k + 1), aL, rfl, (zL aI rfl aQ), (zL aI rfl aR), (zL aI rfl aS), (zL aI rfl aT), (zL aI rfl aU), (zL aI rfl aV), (zL aI rfl aW), (zU aI rfl).trans (congrArg (Value.int .i64) zx), zx, (inF_step (n := w.heap.size) aO zx hrF), hb, zx, hx, O, hLa, hD, hW, hRs, hme, (aJ.cast (by rw [takeT (d := []) zx]; simp; omega) (by rw [takeT (d := []) zx]; simp [List.flatMap_append, cellsRd]))⟩ zx
 refine zB (J2 _ _ (wp_cond_false (zA an rfl) (wp_exit (then_exit (then_exit (blk_hit (o _ _ (zF fun _ o => zF fun _ z => zH (zG (zC an rfl aw) (op_sneq (zA an rfl) rfl (fun aG => ?_) (fun aG => ?_)))))))))))
 ·
  refine zG (zA an rfl) (zS (j := 2) (dj := 121) (b := true) rfl rfl rfl (zA an rfl) (zM fld177_4 (zC an rfl ap) ?_))
  refine zS (j := 2) (dj := 121) (b := true) rfl rfl rfl (zA an rfl) (zN one26 (zA an rfl) (hme.cell rfl) (zS (j := 2) (dj := 121) (b := true) rfl rfl rfl (zA an rfl) (zG (zC an rfl aw) (zS (j := 2) (dj := 121) (b := true) rfl rfl rfl (zA an rfl) (ze (vs := [wv, (.string (bs x))]) ok113 ⟨(zA an rfl), ⟨(zA an rfl), trivial⟩⟩ (has9 (hW.rdw.mono (Nat.zero_le _) zx)) ?_)))))
  rintro _ aI ⟨aH, rfl⟩
  have aH := zQ aH
  obtain ⟨hb, _⟩ := yG hb aH
  have hx := hx.keep0 aH
  have O := O.keep0 aH
  have hLa := hLa.keep0 aH
  have hW := hW.keep0 aH
  have hme := hme.keep0 aH
  have ao := ao.keep0 aH
  rcases Bool.eq_false_or_eq_true ((writB U.writes x)) with aJ | aJ
  ·
   rw [aJ]
   refine zS (j := 2) (dj := 121) (b := true) rfl rfl rfl (zA an rfl) (op_not (zA an rfl) (zc (zA an rfl) (zA an rfl) (zB (z _ _ (wp_cond_false (zA an rfl) (wp_skip (o _ _ (zF fun _ o => reg_from mixed ?_))))))))
   intro aL aK
   obtain ⟨hb, _⟩ := yG hb aK
   have hx := hx.keep0 aK
   have O := O.keep0 aK
   have hLa := hLa.keep0 aK
   have hW := hW.keep0 aK
   have hme := hme.keep0 aK
   have ao := ao.keep0 aK
   refine from_still (m := 7) 7 (hd := [_, _, _, _, _, _, _]) zy rfl rfl (st_step rfl (fun _ h9 => zG (zC an rfl ar) h9) (st_step rfl (fun _ h9 => op_nil (zA an rfl) h9) (st_step rfl (fun _ h9 => zM fld117_0 (zA an rfl) h9) (st_step rfl (fun _ h9 => zN one115 (zA an rfl) (hx.cell rfl) h9) (st_step rfl (fun _ h9 => zG (zC an rfl au) h9) (st_step rfl (fun _ h9 => zY agg177 rfl (zC an rfl ap) hme h9) (st_index_own (i := m) slt115 (zA an rfl) O (zA an rfl) zx zx ?_)))))))
   intro aN aP aO aM
   refine st_nil (from_seq (tl := [_]) zz zy rfl ?_)
   have aQ := O
   refine op_store_own (vs := [(.int .i64 n), la, (.int .u64 U.stamp), am, wv, (.bool U.doomed)]) size177 (zA an rfl) (zA an rfl) rfl rfl (by simp only [yA, yB, yC, yD, hLa.one, ao.one, hW.one]; try rfl) aQ aM (by have := aQ.1; simp only [List.length_cons, List.length_nil]; omega) ?_
   intro aT aR aS
   have := aS.size
   have hW := hW.keepT aQ aS zz
   have ao := ao.keepT aQ aS zz
   have hb := hb.stepL aS (fun _ _ h => .inl h)
   have aR : Own aT base 177 6 lv E.length (((E.set m (((n, askRT U Rs x), ⟨la, am, wv, (D ++ (Rs.take k).map (fun s => (⟨s, la, U.label⟩ : RD)))⟩) : RE))).flatMap cellsRE) := by exact aR.cast rfl (set_re6 (b := (((n, askRT U Rs x), ⟨la, am, wv, (D ++ (Rs.take k).map (fun s => (⟨s, la, U.label⟩ : RD)))⟩) : RE)) zx)
   refine zB (o _ _ (zF fun _ o => zH (zD rfl (zD rfl (zB (o _ _ (wp_ret (ret2 rfl av (zA an rfl) (zA an rfl) ⟨_, rfl, ?_⟩))))))))
   obtain rfl : i = E.length := by omega
   obtain rfl : k = Rs.length := by omega
   have h1 : outE E n U Rs x E.length = 1 := al
   have hg : U.writes = gotW U x := gotW_h aG aJ
   exact ⟨hb, by rw [h1]; rfl, .inr ⟨h1, am, _, aR, ao, (fun y hy => by
     by_cases aK : y < w.heap.size
     · rcases hrF y aK hy with q9 | q9
       · exact absurd q9 (ao.notOwn aR zz y hy)
       · exact .inl q9
     · exact .inr zx), hW.cast (by rw [← hg] <;> simp) (by rw [← hg] <;> simp), .inl rfl⟩⟩
  rw [aJ]
  refine zS (j := 2) (dj := 121) (b := true) rfl rfl rfl (zA an rfl) (op_not (zA an rfl) (zc (zA an rfl) (zA an rfl) (zB (z _ _ (wp_cond_true (zA an rfl) (zH (op_bslice (e := 9) (pv := []) (cs := []) trivial zy ?_)))))))
  intro aO aQ aP aN aM aL
  obtain ⟨hb, _⟩ := yG hb aL
  have hW := hW.keep0 aL
  have hme := hme.keep0 aL
  refine zM fld177_4 (zC an rfl ap) (zN one26 (zA an rfl) (hme.cell rfl) ?_)
  have aR := (Own.ofBx (base := w.heap.size) (sz := 1) (n := 0) aM rfl zz zx)
  refine op_append slt26 (zA an rfl) aR (zA an rfl) (Src.ofRd Try.underlying26 zz hW.rdw (one_sv _)) (by unfold maxLen; omega) zx hb.size ?_
  intro aV aU aT aS aW
  have := aS.size
  have hb := hb.stepO aR aS zx
  have aT : Own aU w.heap.size 9 1 aV (0 + U.writes.length) ((U.writes).map sv) := by simpa [u8v, u16v, sv] using aT
  refine zG (zC an rfl aw) (op_bslice (e := 9) (pv := [(0, (.string (bs x)))]) (cs := [(.string (bs x))]) ⟨rfl, (zA an rfl), trivial⟩ zy ?_)
  intro aZ a0 a1 a2 aY aX
  obtain ⟨hb, _⟩ := yG hb aX
  have aT := aT.keep0 aX
  have a3 := aT
  refine op_append slt26 (zA an rfl) a3 (zA an rfl) (Src.ofRd Try.underlying26 zz (RdC.ofBx (sz := 1) (n := 1) aY rfl zz) (by simp [Value.oneCell', u8v])) (by unfold maxLen; omega) zx hb.size ?_
  intro a6 a7 a4 a5 a8
  have := a5.size
  have hx := (((hx.keep0 aL).keep aS (by simp [Value.ownBlock]; try omega)).keep0 aX).keepO a3 a5 zz
  have hme := ((hme.keep aS (by simp [Value.ownBlock]; try omega)).keep0 aX).keepO a3 a5 zz
  have hb := hb.stepO a3 a5 zx
  have a4 : Own a7 w.heap.size 9 1 a6 ((0 + U.writes.length) + 1) (((U.writes ++ [x])).map sv) := by simpa [u8v, u16v, sv] using a4
  refine zM fld177_4 (zC an rfl ap) ?_
  have hme_old := hme
  refine za (vs := [a6]) (cs' := [(.int .i64 n), la, (.int .u64 U.stamp), am, a6, (.bool U.doomed)]) size26 (zA an rfl) (zA an rfl) a4.cl rfl (by simp only [yA, yB, yC, yD, a4.one]; try rfl) hme (zI rfl) rfl ?_
  intro ba hme a9
  have := a9.size
  have hx := hx.keep a9 (sN hx hme_old)
  have hb := hb.step1 a9 zx
  refine zB (o _ _ (zF fun _ o => reg_from mixed ?_))
  intro bc bb
  obtain ⟨hb, _⟩ := yG hb bb
  have hx := hx.keep0 bb
  have O := (((((O.keep0 aL).keepT aR aS zz).keep0 aX).keepT a3 a5 zz).keep a9 (.inr R)).keep0 bb
  have hLa := (((((hLa.keep0 aL).keepT aR aS zz).keep0 aX).keepT a3 a5 zz).keepX hme_old a9 zz).keep0 bb
  have ao := (((((ao.keep0 aL).keepT aR aS zz).keep0 aX).keepT a3 a5 zz).keepX hme_old a9 zz).keep0 bb
  have a4 := (a4.keepX hme_old a9 zz).keep0 bb
  have hme := hme.keep0 bb
  refine from_still (m := 7) 7 (hd := [_, _, _, _, _, _, _]) zy rfl rfl (st_step rfl (fun _ h9 => zG (zC an rfl ar) h9) (st_step rfl (fun _ h9 => op_nil (zA an rfl) h9) (st_step rfl (fun _ h9 => zM fld117_0 (zA an rfl) h9) (st_step rfl (fun _ h9 => zN one115 (zA an rfl) (hx.cell rfl) h9) (st_step rfl (fun _ h9 => zG (zC an rfl au) h9) (st_step rfl (fun _ h9 => zY agg177 rfl (zC an rfl ap) hme h9) (st_index_own (i := m) slt115 (zA an rfl) O (zA an rfl) zx zx ?_)))))))
  intro bg bf be bd
  refine st_nil (from_seq (tl := [_]) zz zy rfl ?_)
  have bh := O
  refine op_store_own (vs := [(.int .i64 n), la, (.int .u64 U.stamp), am, a6, (.bool U.doomed)]) size177 (zA an rfl) (zA an rfl) rfl rfl (by simp only [yA, yB, yC, yD, hLa.one, ao.one, a4.one]; try rfl) bh bd (by have := bh.1; simp only [List.length_cons, List.length_nil]; omega) ?_
  intro bk bj bi
  have := bi.size
  have ao := ao.keepT bh bi zz
  have a4 := a4.keepT bh bi zz
  have hb := hb.stepL bi (fun _ _ h => .inl h)
  have bj : Own bk base 177 6 lv E.length (((E.set m (((n, askRT U Rs x), ⟨la, am, a6, (D ++ (Rs.take k).map (fun s => (⟨s, la, U.label⟩ : RD)))⟩) : RE))).flatMap cellsRE) := by exact bj.cast rfl (set_re6 (b := (((n, askRT U Rs x), ⟨la, am, a6, (D ++ (Rs.take k).map (fun s => (⟨s, la, U.label⟩ : RD)))⟩) : RE)) zx)
  refine zB (o _ _ (zF fun _ o => zH (zD rfl (zD rfl (zB (o _ _ (wp_ret (ret2 rfl av (zA an rfl) (zA an rfl) ⟨_, rfl, ?_⟩))))))))
  obtain rfl : i = E.length := by omega
  obtain rfl : k = Rs.length := by omega
  have h1 : outE E n U Rs x E.length = 1 := al
  have hg : U.writes ++ [x] = gotW U x := gotW_n aG aJ
  exact ⟨hb, by rw [h1]; rfl, .inr ⟨h1, am, _, bj, ao, (fun y hy => by
    by_cases aK : y < w.heap.size
    · rcases hrF y aK hy with q9 | q9
      · exact absurd q9 (ao.notOwn bj zz y hy)
      · exact .inl q9
    · exact .inr zx), (a4.mono (base' := base) zx).cast (by rw [← hg] <;> simp) (by rw [← hg] <;> simp), .inr (fun y hy => (a4.lt y hy).1)⟩⟩
 refine zG (zA an rfl) (zR (j := 2) (dj := 121) (b := true) rfl rfl rfl (zA an rfl) rfl rfl (zR (j := 2) (dj := 121) (b := true) rfl rfl rfl (zA an rfl) rfl rfl (zR (j := 2) (dj := 121) (b := true) rfl rfl rfl (zA an rfl) rfl rfl (zR (j := 2) (dj := 121) (b := true) rfl rfl rfl (zA an rfl) rfl rfl (zR (j := 2) (dj := 121) (b := true) rfl rfl rfl (zA an rfl) rfl rfl (zd (zA an rfl) rfl (zB (z _ _ (wp_cond_false (zA an rfl) (wp_skip (o _ _ (zF fun _ o => reg_from mixed ?_))))))))))))
 intro aI aH
 obtain ⟨hb, _⟩ := yG hb aH
 have hx := hx.keep0 aH
 have O := O.keep0 aH
 have hLa := hLa.keep0 aH
 have hW := hW.keep0 aH
 have hme := hme.keep0 aH
 have ao := ao.keep0 aH
 refine from_still (m := 7) 7 (hd := [_, _, _, _, _, _, _]) zy rfl rfl (st_step rfl (fun _ h9 => zG (zC an rfl ar) h9) (st_step rfl (fun _ h9 => op_nil (zA an rfl) h9) (st_step rfl (fun _ h9 => zM fld117_0 (zA an rfl) h9) (st_step rfl (fun _ h9 => zN one115 (zA an rfl) (hx.cell rfl) h9) (st_step rfl (fun _ h9 => zG (zC an rfl au) h9) (st_step rfl (fun _ h9 => zY agg177 rfl (zC an rfl ap) hme h9) (st_index_own (i := m) slt115 (zA an rfl) O (zA an rfl) zx zx ?_)))))))
 intro aL aM aN aJ
 refine st_nil (from_seq (tl := [_]) zz zy rfl ?_)
 have aO := O
 refine op_store_own (vs := [(.int .i64 n), la, (.int .u64 U.stamp), am, wv, (.bool U.doomed)]) size177 (zA an rfl) (zA an rfl) rfl rfl (by simp only [yA, yB, yC, yD, hLa.one, ao.one, hW.one]; try rfl) aO aJ (by have := aO.1; simp only [List.length_cons, List.length_nil]; omega) ?_
 intro aR aQ aP
 have := aP.size
 have hW := hW.keepT aO aP zz
 have ao := ao.keepT aO aP zz
 have hb := hb.stepL aP (fun _ _ h => .inl h)
 have aQ : Own aR base 177 6 lv E.length (((E.set m (((n, askRT U Rs x), ⟨la, am, wv, (D ++ (Rs.take k).map (fun s => (⟨s, la, U.label⟩ : RD)))⟩) : RE))).flatMap cellsRE) := by exact aQ.cast rfl (set_re6 (b := (((n, askRT U Rs x), ⟨la, am, wv, (D ++ (Rs.take k).map (fun s => (⟨s, la, U.label⟩ : RD)))⟩) : RE)) zx)
 refine zB (o _ _ (zF fun _ o => zH (zD rfl (zD rfl (zB (o _ _ (wp_ret (ret2 rfl av (zA an rfl) (zA an rfl) ⟨_, rfl, ?_⟩))))))))
 obtain rfl : i = E.length := by omega
 obtain rfl : k = Rs.length := by omega
 have h1 : outE E n U Rs x E.length = 1 := al
 have hg : U.writes = gotW U x := by rw [aG]; exact gotW_0
 exact ⟨hb, by rw [h1]; rfl, .inr ⟨h1, am, _, aQ, ao, (fun y hy => by
   by_cases aK : y < w.heap.size
   · rcases hrF y aK hy with q9 | q9
     · exact absurd q9 (ao.notOwn aQ zz y hy)
     · exact .inl q9
   · exact .inr zx), hW.cast (by rw [← hg] <;> simp) (by rw [← hg] <;> simp), .inl rfl⟩⟩

end Go.Proofs.Ytmhdbphpmgjpcaa
