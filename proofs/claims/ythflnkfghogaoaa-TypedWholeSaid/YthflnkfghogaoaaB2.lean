/- Which kind an expression has, plainly. -/
import Derived.Test.YthflnkfghogaoaaProg
import Derived.KernelRfl
import Derived.Test.YthflnkfghogaoaaB1
set_option linter.unusedVariables false
set_option linter.unusedSimpArgs false

namespace Go.Gx
structure PItm where
  agg : Int
  tb : List UInt8
  nm : List UInt8
instance : Inhabited PItm := ⟨⟨0, [], []⟩⟩
def cellsI (x : PItm) : List Value := [.int .i64 x.agg, .string (bs x.tb), .string (bs x.nm)]
theorem el_pi {l : List PItm} {e : Int} {i : Nat} (he : e = (i : Int)) (h : i < l.length) : ∀ j u, (cellsI (l.getD i default))[j]? = some u → (l.flatMap cellsI)[e.toNat * 3 + j]? = some u :=
  el_flat (f := cellsI) (d := default) (by decide) (fun _ _ => rfl) he h
def isCol (tb nm : List UInt8) (x : PItm) : Bool := decide (x.nm = nm) && (decide (tb = []) || decide (x.tb = tb))
def hits (C : List PItm) (K : List Int) (tb nm : List UInt8) : List Int := ((C.zip K).filter fun p => isCol tb nm p.1).map Prod.snd
def colOf (h : List Int) : Int × Int := if h.length = 1 then (h.getLastD 0, 0) else (0, 10)
def colAt (C : List PItm) (K : List Int) (tb nm : List UInt8) : Int × Int := colOf (hits C K tb nm)
theorem hits_step {C : List PItm} {K : List Int} {tb nm : List UInt8} {i : Nat} (h1 : i < C.length) (h2 : i < K.length) :
    hits (C.take (i + 1)) (K.take (i + 1)) tb nm = hits (C.take i) (K.take i) tb nm ++ (if isCol tb nm (C.getD i default) = true then [K.getD i 0] else []) := by
  have e1 : C.take (i + 1) = C.take i ++ [C.getD i default] := by simp [List.getD_eq_getElem?_getD, h1]
  have e2 : K.take (i + 1) = K.take i ++ [K.getD i 0] := by simp [List.getD_eq_getElem?_getD, h2]
  unfold hits
  rw [e1, e2, List.zip_append (by simp; omega), List.filter_append, List.map_append]
  congr 1
  by_cases h : isCol tb nm (C.getD i default) = true
  · rw [if_pos h]; simp only [List.zip_cons_cons, List.zip_nil_left, List.filter_cons, h, if_true, List.filter_nil, List.map_cons, List.map_nil]
  · rw [if_neg h]; simp only [List.zip_cons_cons, List.zip_nil_left, List.filter_cons, h, List.filter_nil, List.map_nil]; rfl
theorem hits_all {C : List PItm} {K : List Int} {tb nm : List UInt8} {i : Nat} (h : i = min C.length K.length) : hits (C.take i) (K.take i) tb nm = hits C K tb nm := by
  subst h; unfold hits
  have : (C.take (min C.length K.length)).zip (K.take (min C.length K.length)) = C.zip K := by
    rw [List.zip_eq_zipWith, List.zip_eq_zipWith, ← List.take_zipWith, List.take_of_length_le (by simp)]
  rw [this]
theorem isCol_t {tb nm : List UInt8} {x : PItm} (h : x.nm = nm) (h2 : tb = [] ∨ x.tb = tb) : isCol tb nm x = true := by unfold isCol; rcases h2 with h2 | h2 <;> simp [h, h2]
theorem isCol_f1 {tb nm : List UInt8} {x : PItm} (h : ¬ x.nm = nm) : isCol tb nm x = false := by unfold isCol; simp [h]
theorem isCol_f2 {tb nm : List UInt8} {x : PItm} (h : ¬ tb = []) (h2 : ¬ x.tb = tb) : isCol tb nm x = false := by unfold isCol; simp [h, h2]
theorem hits_t {C : List PItm} {K : List Int} {tb nm : List UInt8} {i : Nat} (h1 : i < C.length) (h2 : i < K.length) (h : isCol tb nm (C.getD i default) = true) : hits (C.take (i + 1)) (K.take (i + 1)) tb nm = hits (C.take i) (K.take i) tb nm ++ [K.getD i 0] := by rw [hits_step h1 h2, if_pos h]
theorem hits_f {C : List PItm} {K : List Int} {tb nm : List UInt8} {i : Nat} (h1 : i < C.length) (h2 : i < K.length) (h : isCol tb nm (C.getD i default) = false) : hits (C.take (i + 1)) (K.take (i + 1)) tb nm = hits (C.take i) (K.take i) tb nm := by rw [hits_step h1 h2, if_neg (by rw [h]; simp), List.append_nil]
theorem hits_le {C : List PItm} {K : List Int} {tb nm : List UInt8} : (hits C K tb nm).length ≤ C.length := by
  unfold hits; rw [List.length_map]; exact Nat.le_trans (List.length_filter_le _ _) (by simp; omega)
def ixs (C : List PItm) (tb nm : List UInt8) (i : Nat) : List Nat := (List.range i).filter fun j => isCol tb nm (C.getD j default)
theorem ixs_t {C : List PItm} {tb nm : List UInt8} {i : Nat} (h : isCol tb nm (C.getD i default) = true) : ixs C tb nm (i + 1) = ixs C tb nm i ++ [i] := by
  unfold ixs; rw [List.range_succ, List.filter_append]; simp only [List.filter_cons, h, if_true, List.filter_nil]
theorem ixs_f {C : List PItm} {tb nm : List UInt8} {i : Nat} (h : isCol tb nm (C.getD i default) = false) : ixs C tb nm (i + 1) = ixs C tb nm i := by
  unfold ixs; rw [List.range_succ, List.filter_append]; simp only [List.filter_cons, h, List.filter_nil]; simp
def atX (C : List PItm) (n : Nat) (tb nm : List UInt8) : Int × Int := if (ixs C tb nm (min C.length n)).length = 1 then (((ixs C tb nm (min C.length n)).getD 0 0 : Nat), 0) else (-1, 10)
def FoundX (C : List PItm) (tb nm : List UInt8) (i : Nat) (k : Int) : Prop := (k = -1 ∧ ixs C tb nm i = []) ∨ ∃ j : Nat, k = j ∧ ixs C tb nm i = [j]
theorem FoundX.none {C : List PItm} {tb nm : List UInt8} {i : Nat} {k : Int} (h : FoundX C tb nm i k) (hc : isCol tb nm (C.getD i default) = false) : FoundX C tb nm (i + 1) k := by unfold FoundX; rw [ixs_f hc]; exact h
theorem FoundX.hit {C : List PItm} {tb nm : List UInt8} {i : Nat} {k : Int} (h : FoundX C tb nm i k) (hk : ¬ 0 ≤ k) (hc : isCol tb nm (C.getD i default) = true) : FoundX C tb nm (i + 1) (i : Int) := by
  rcases h with ⟨_, h⟩ | ⟨j, rfl, _⟩
  · exact .inr ⟨i, rfl, by rw [ixs_t hc, h]; rfl⟩
  · omega
theorem FoundX.two {C : List PItm} {tb nm : List UInt8} {i : Nat} {k : Int} (h : FoundX C tb nm i k) (hk : 0 ≤ k) (hc : isCol tb nm (C.getD i default) = true) : 2 ≤ (ixs C tb nm (i + 1)).length := by
  rcases h with ⟨rfl, _⟩ | ⟨j, _, h⟩
  · omega
  · rw [ixs_t hc, h]; simp
theorem FoundX.end {C : List PItm} {n : Nat} {tb nm : List UInt8} {i : Nat} {k : Int} (h : FoundX C tb nm i k) (hi : i = min C.length n) : atX C n tb nm = if k < 0 then (-1, 10) else (k, 0) := by
  subst hi; unfold atX
  rcases h with ⟨rfl, h⟩ | ⟨j, rfl, h⟩
  · rw [h]; rfl
  · rw [h, if_pos (show ([j] : List Nat).length = 1 from rfl), if_neg (by omega)]; rfl
def argsN (op : Int) : Int := if op = 1 ∨ op = 2 then 0 else if op = 3 ∨ op = 4 then 1 else if 5 ≤ op ∧ op ≤ 15 then 2 else -1
def takesX (op : Int) (l : List Int) : Int := if op = 4 ∨ op = 14 ∨ op = 15 then 3 else if 8 ≤ op ∧ op ≤ 13 then l.getD 0 0 else 1
def givesX (op : Int) : Int := if op = 4 ∨ op = 14 ∨ op = 15 ∨ (8 ≤ op ∧ op ≤ 13) then 3 else 1
def ofX (C : List PItm) (K : List Int) (op vk : Int) (tb nm : List UInt8) (l : List Int) : Int × Int :=
  if op = 1 then (vk, 0) else if op = 2 then colAt C K tb nm
  else if 8 ≤ op ∧ op ≤ 13 ∧ l.getD 0 0 ≠ 1 ∧ l.getD 0 0 ≠ 2 then (0, 11)
  else if (l.all fun k => decide (k = takesX op l)) = true then (givesX op, 0) else (0, 11)
theorem ofX_bad {C : List PItm} {K : List Int} {op vk : Int} {tb nm : List UInt8} {l : List Int} (h : 8 ≤ op ∧ op ≤ 13 ∧ l.getD 0 0 ≠ 1 ∧ l.getD 0 0 ≠ 2) : ofX C K op vk tb nm l = (0, 11) := by
  unfold ofX; rw [if_neg (by omega), if_neg (by omega), if_pos h]
theorem ofX_no {C : List PItm} {K : List Int} {op vk : Int} {tb nm : List UInt8} {l : List Int} {i : Nat} (h1 : op ≠ 1) (h2 : op ≠ 2) (h : ¬ (8 ≤ op ∧ op ≤ 13 ∧ l.getD 0 0 ≠ 1 ∧ l.getD 0 0 ≠ 2)) (hi : i < l.length) (hx : l.getD i 0 ≠ takesX op l) : ofX C K op vk tb nm l = (0, 11) := by
  unfold ofX; rw [if_neg h1, if_neg h2, if_neg h, if_neg]
  intro hh; rw [List.all_eq_true] at hh
  have := hh _ (List.getElem_mem hi)
  simp only [decide_eq_true_eq] at this
  exact hx (by simpa [List.getD_eq_getElem?_getD, hi] using this)
theorem ofX_ok {C : List PItm} {K : List Int} {op vk : Int} {tb nm : List UInt8} {l : List Int} (h1 : op ≠ 1) (h2 : op ≠ 2) (h : ¬ (8 ≤ op ∧ op ≤ 13 ∧ l.getD 0 0 ≠ 1 ∧ l.getD 0 0 ≠ 2)) (hx : ∀ j, j < l.length → l.getD j 0 = takesX op l) : ofX C K op vk tb nm l = (givesX op, 0) := by
  unfold ofX; rw [if_neg h1, if_neg h2, if_neg h, if_pos]
  rw [List.all_eq_true]
  intro x hx2
  obtain ⟨j, hj, rfl⟩ := List.mem_iff_getElem.1 hx2
  simp only [decide_eq_true_eq]
  have := hx j hj
  simpa [List.getD_eq_getElem?_getD, hj] using this
theorem all_next {α : Type} {f : Nat → α} {x : α} {i : Nat} (h : ∀ j, j < i → f j = x) (hx : f i = x) : ∀ j, j < i + 1 → f j = x := fun j hj => by
  by_cases hji : j = i
  · subst hji; exact hx
  · exact h j (by omega)
theorem argsN_two {op : Int} (h : 8 ≤ op ∧ op ≤ 13) : argsN op = 2 := by unfold argsN; rw [if_neg (by omega), if_neg (by omega), if_pos (by omega)]
def firstE : List Int → Int
  | [] => 0
  | e :: l => if e = 0 then firstE l else e
theorem firstE_append {a b : List Int} (h : ∀ x ∈ a, x = 0) : firstE (a ++ b) = firstE b := by
  induction a with
  | nil => rfl
  | cons x a ih => simp only [List.cons_append, firstE]; rw [if_pos (h x (by simp))]; exact ih fun y hy => h y (by simp [hy])
theorem firstE_zero {a : List Int} (h : ∀ x ∈ a, x = 0) : firstE a = 0 := by have := firstE_append (b := []) h; simpa [firstE] using this
theorem firstE_at {a : List Int} {i : Nat} (hi : i < a.length) (h : ∀ j, j < i → a.getD j 0 = 0) (hx : a.getD i 0 ≠ 0) : firstE a = a.getD i 0 := by
  have e : a = a.take i ++ a.drop i := (List.take_append_drop i a).symm
  have d : a.drop i = a.getD i 0 :: a.drop (i + 1) := by rw [List.drop_eq_getElem_cons hi]; simp [List.getD_eq_getElem?_getD, hi]
  rw [e, firstE_append, d]
  · simp only [firstE]; rw [if_neg hx]; rw [← d, ← e]
  · intro x hx
    obtain ⟨j, hj, rfl⟩ := List.mem_iff_getElem.1 hx
    have hj2 : j < i := by simp at hj; omega
    have := h j hj2
    simpa [List.getD_eq_getElem?_getD, show j < a.length by omega] using this
theorem firstE_all {a : List Int} (h : firstE a = 0) : ∀ x ∈ a, x = 0 := by
  induction a with
  | nil => intro x hx; cases hx
  | cons y a ih =>
    simp only [firstE] at h
    by_cases hy : y = 0
    · rw [if_pos hy] at h
      intro x hx
      rcases List.mem_cons.1 hx with rfl | hx
      · exact hy
      · exact ih h x hx
    · rw [if_neg hy] at h; exact absurd h hy
theorem map_getD0 {α : Type} [Inhabited α] (f : α → Int) {E : List α} {i : Nat} (h : i < E.length) : (E.map f).getD i 0 = f (E.getD i default) := by simp [List.getD_eq_getElem?_getD, h]
theorem firstE_hit {α : Type} [Inhabited α] {f : α → Int} {E : List α} {i : Nat} (hi : i < E.length) (h : ∀ j, j < i → f (E.getD j default) = 0) (hx : f (E.getD i default) ≠ 0) : firstE (E.map f) = f (E.getD i default) := by
  rw [firstE_at (i := i) (by simpa using hi), map_getD0 f hi]
  · intro j hj; rw [map_getD0 f (by omega)]; exact h j hj
  · rw [map_getD0 f hi]; exact hx
theorem firstE_none {α : Type} [Inhabited α] {f : α → Int} {E : List α} {i : Nat} (hi : E.length ≤ i) (h : ∀ j, j < i → f (E.getD j default) = 0) : firstE (E.map f) = 0 := by
  refine firstE_zero fun x hx => ?_
  obtain ⟨a, ha, rfl⟩ := List.mem_map.1 hx
  obtain ⟨j, hj, rfl⟩ := List.mem_iff_getElem.1 ha
  have := h j (by omega)
  simpa [List.getD_eq_getElem?_getD, hj] using this
theorem take_map_snoc {α β : Type} [Inhabited α] (f : α → β) {E : List α} {i : Nat} (h : i < E.length) : (E.take (i + 1)).map f = (E.take i).map f ++ [f (E.getD i default)] := by
  have : E.take (i + 1) = E.take i ++ [E.getD i default] := by simp [List.getD_eq_getElem?_getD, h]
  rw [this, List.map_append]; rfl
mutual
def kindX (C : List PItm) (K : List Int) : XE → Int × Int
  | .mk op vk _ _ tb nm _ args => if (args.length : Int) ≠ argsN op then (0, 1) else if firstE ((kindsX C K args).map Prod.snd) ≠ 0 then (0, firstE ((kindsX C K args).map Prod.snd)) else ofX C K op vk tb nm ((kindsX C K args).map Prod.fst)
def kindsX (C : List PItm) (K : List Int) : List XE → List (Int × Int)
  | [] => []
  | e :: l => kindX C K e :: kindsX C K l
end
theorem kindsX_map (C : List PItm) (K : List Int) (l : List XE) : kindsX C K l = l.map (kindX C K) := by
  induction l with
  | nil => rfl
  | cons e l ih => simp only [kindsX, List.map_cons, ih]
theorem kindX_eq (C : List PItm) (K : List Int) (e : XE) : kindX C K e = if (e.args.length : Int) ≠ argsN e.op then (0, 1) else if firstE (e.args.map fun a => (kindX C K a).2) ≠ 0 then (0, firstE (e.args.map fun a => (kindX C K a).2)) else ofX C K e.op e.vk e.tb e.nm (e.args.map fun a => (kindX C K a).1) := by
  cases e with
  | mk op vk vi vt tb nm av args => simp only [kindX, kindsX_map, List.map_map, XE.args, XE.op, XE.vk, XE.tb, XE.nm]; rfl
def mustX (C : List PItm) (K : List Int) (e : XE) (k : Int) : Int := if (kindX C K e).2 ≠ 0 then (kindX C K e).2 else if (kindX C K e).1 ≠ k then 11 else 0
def whereX (C : List PItm) (K : List Int) (l : List XE) : Int := firstE (l.map fun e => mustX C K e 3)
theorem XE.ind {P : XE → Prop} (h : ∀ e, (∀ a ∈ e.args, P a) → P e) : ∀ e, P e := by
  intro e
  refine XE.rec (motive_1 := P) (motive_2 := fun l => ∀ a ∈ l, P a) (fun op vk vi vt tb nm av args ih => h _ ih) (fun a ha => (by cases ha)) (fun e l h1 h2 a ha => ?_) e
  rcases List.mem_cons.1 ha with rfl | ha
  · exact h1
  · exact h2 a ha
end Go.Gx

namespace Go.Proofs.Ythflnkfghogaoaa
open Go.Gx

theorem one3 : oneT Try.prog 3 = true := by kernel_rfl
theorem size3 : (Try.prog.info? 3).map (·.size) = some 1 := by kernel_rfl
theorem zero3 : zeroT Try.prog 3 = some (Value.int .i64 0) := by kernel_rfl
theorem one4 : oneT Try.prog 4 = true := by kernel_rfl
theorem us5 : (Try.prog.underlying 5).isSome = true := by kernel_rfl
theorem one5 : oneT Try.prog 5 = true := by kernel_rfl
theorem one9 : oneT Try.prog 9 = true := by kernel_rfl
theorem size9 : (Try.prog.info? 9).map (·.size) = some 1 := by kernel_rfl
theorem one22 : oneT Try.prog 22 = true := by kernel_rfl
theorem slt22 : SlT Try.prog 22 63 (Value.agg #[(Value.int .i64 0), (Value.string (bs [])), (Value.string (bs []))]) 3 40 := ⟨Try.underlying22, by kernel_rfl, rfl, by decide⟩
theorem size22 : (Try.prog.info? 22).map (·.size) = some 1 := by kernel_rfl
theorem one23 : oneT Try.prog 23 = true := by kernel_rfl
theorem slt23 : SlT Try.prog 23 3 (Value.int .i64 0) 1 8 := ⟨Try.underlying23, by kernel_rfl, rfl, by decide⟩
theorem size23 : (Try.prog.info? 23).map (·.size) = some 1 := by kernel_rfl
theorem zero23 : zeroT Try.prog 23 = some (Value.slice none 0 0) := by kernel_rfl
theorem agg25 : aggT Try.prog 25 = some 3 := by kernel_rfl
theorem fld25_0 : fieldT Try.prog 25 0 = some 0 := by kernel_rfl
theorem size25 : (Try.prog.info? 25).map (·.size) = some 3 := by kernel_rfl
theorem zero25 : zeroT Try.prog 25 = some (Value.agg #[(Value.int .i64 0), (Value.int .i64 0), (Value.string (bs []))]) := by kernel_rfl
theorem one26 : oneT Try.prog 26 = true := by kernel_rfl
theorem slt26 : SlT Try.prog 26 28 (Value.agg #[(Value.int .i64 0), (Value.int .i64 0), (Value.int .i64 0), (Value.string (bs [])), (Value.string (bs [])), (Value.string (bs [])), (Value.slice none 0 0)]) 7 96 := ⟨Try.underlying26, by kernel_rfl, rfl, by decide⟩
theorem agg28 : aggT Try.prog 28 = some 7 := by kernel_rfl
theorem fld28_0 : fieldT Try.prog 28 0 = some 0 := by kernel_rfl
theorem fld28_1 : fieldT Try.prog 28 1 = some 1 := by kernel_rfl
theorem fld28_2 : fieldT Try.prog 28 2 = some 4 := by kernel_rfl
theorem fld28_3 : fieldT Try.prog 28 3 = some 5 := by kernel_rfl
theorem fld28_4 : fieldT Try.prog 28 4 = some 6 := by kernel_rfl
theorem size28 : (Try.prog.info? 28).map (·.size) = some 7 := by kernel_rfl
theorem zero28 : zeroT Try.prog 28 = some (Value.agg #[(Value.int .i64 0), (Value.int .i64 0), (Value.int .i64 0), (Value.string (bs [])), (Value.string (bs [])), (Value.string (bs [])), (Value.slice none 0 0)]) := by kernel_rfl
theorem one35 : oneT Try.prog 35 = true := by kernel_rfl
theorem slt35 : SlT Try.prog 35 5 (Value.int .u8 0) 1 1 := ⟨Try.underlying35, by kernel_rfl, rfl, by decide⟩
theorem one36 : oneT Try.prog 36 = true := by kernel_rfl
theorem slt36 : SlT Try.prog 36 55 (Value.agg #[(Value.string (bs [])), (Value.slice none 0 0), (Value.slice none 0 0)]) 3 64 := ⟨Try.underlying36, by kernel_rfl, rfl, by decide⟩
theorem size36 : (Try.prog.info? 36).map (·.size) = some 1 := by kernel_rfl
theorem one37 : oneT Try.prog 37 = true := by kernel_rfl
theorem slt37 : SlT Try.prog 37 98 (Value.agg #[(Value.string (bs [])), (Value.slice none 0 0), (Value.int .i64 0), (Value.string (bs [])), (Value.string (bs [])), (Value.slice none 0 0), (Value.slice none 0 0), (Value.slice none 0 0), (Value.slice none 0 0), (Value.string (bs [])), (Value.slice none 0 0), (Value.slice none 0 0), (Value.slice none 0 0), (Value.bool false), (Value.slice none 0 0)]) 15 296 := ⟨Try.underlying37, by kernel_rfl, rfl, by decide⟩
theorem agg39 : aggT Try.prog 39 = some 2 := by kernel_rfl
theorem fld39_0 : fieldT Try.prog 39 0 = some 0 := by kernel_rfl
theorem fld39_1 : fieldT Try.prog 39 1 = some 1 := by kernel_rfl
theorem size39 : (Try.prog.info? 39).map (·.size) = some 2 := by kernel_rfl
theorem zero39 : zeroT Try.prog 39 = some (Value.agg #[(Value.slice none 0 0), (Value.slice none 0 0)]) := by kernel_rfl
theorem one41 : oneT Try.prog 41 = true := by kernel_rfl
theorem slt41 : SlT Try.prog 41 68 (Value.agg #[(Value.string (bs [])), (Value.int .i64 0), (Value.string (bs []))]) 3 40 := ⟨Try.underlying41, by kernel_rfl, rfl, by decide⟩
theorem size41 : (Try.prog.info? 41).map (·.size) = some 1 := by kernel_rfl
theorem one43 : oneT Try.prog 43 = true := by kernel_rfl
theorem slt43 : SlT Try.prog 43 45 (Value.agg #[(Value.int .i64 0), (Value.string (bs [])), (Value.string (bs [])), (Value.slice none 0 0), (Value.slice none 0 0), (Value.slice none 0 0), (Value.slice none 0 0), (Value.string (bs [])), (Value.slice none 0 0), (Value.slice none 0 0), (Value.slice none 0 0), (Value.bool false), (Value.slice none 0 0)]) 13 256 := ⟨Try.underlying43, by kernel_rfl, rfl, by decide⟩
theorem agg45 : aggT Try.prog 45 = some 13 := by kernel_rfl
theorem fld45_0 : fieldT Try.prog 45 0 = some 0 := by kernel_rfl
theorem fld45_1 : fieldT Try.prog 45 1 = some 1 := by kernel_rfl
theorem fld45_2 : fieldT Try.prog 45 2 = some 2 := by kernel_rfl
theorem fld45_5 : fieldT Try.prog 45 5 = some 5 := by kernel_rfl
theorem fld45_6 : fieldT Try.prog 45 6 = some 6 := by kernel_rfl
theorem fld45_7 : fieldT Try.prog 45 7 = some 7 := by kernel_rfl
theorem fld45_8 : fieldT Try.prog 45 8 = some 8 := by kernel_rfl
theorem fld45_9 : fieldT Try.prog 45 9 = some 9 := by kernel_rfl
theorem fld45_10 : fieldT Try.prog 45 10 = some 10 := by kernel_rfl
theorem fld45_12 : fieldT Try.prog 45 12 = some 12 := by kernel_rfl
theorem one53 : oneT Try.prog 53 = true := by kernel_rfl
theorem slt53 : SlT Try.prog 53 9 (Value.string (bs [])) 1 16 := ⟨Try.underlying53, by kernel_rfl, rfl, by decide⟩
theorem size53 : (Try.prog.info? 53).map (·.size) = some 1 := by kernel_rfl
theorem agg55 : aggT Try.prog 55 = some 3 := by kernel_rfl
theorem fld55_0 : fieldT Try.prog 55 0 = some 0 := by kernel_rfl
theorem fld55_1 : fieldT Try.prog 55 1 = some 1 := by kernel_rfl
theorem fld55_2 : fieldT Try.prog 55 2 = some 2 := by kernel_rfl
theorem size55 : (Try.prog.info? 55).map (·.size) = some 3 := by kernel_rfl
theorem zero55 : zeroT Try.prog 55 = some (Value.agg #[(Value.string (bs [])), (Value.slice none 0 0), (Value.slice none 0 0)]) := by kernel_rfl
theorem agg57 : aggT Try.prog 57 = some 3 := by kernel_rfl
theorem arr57 : arrT Try.prog 57 = some (3, 1) := by kernel_rfl
theorem size57 : (Try.prog.info? 57).map (·.size) = some 3 := by kernel_rfl
theorem zero57 : zeroT Try.prog 57 = some (Value.agg #[(Value.bool false), (Value.bool false), (Value.bool false)]) := by kernel_rfl
theorem agg63 : aggT Try.prog 63 = some 3 := by kernel_rfl
theorem fld63_0 : fieldT Try.prog 63 0 = some 0 := by kernel_rfl
theorem fld63_1 : fieldT Try.prog 63 1 = some 1 := by kernel_rfl
theorem fld63_2 : fieldT Try.prog 63 2 = some 2 := by kernel_rfl
theorem size63 : (Try.prog.info? 63).map (·.size) = some 3 := by kernel_rfl
theorem zero63 : zeroT Try.prog 63 = some (Value.agg #[(Value.int .i64 0), (Value.string (bs [])), (Value.string (bs []))]) := by kernel_rfl
theorem agg68 : aggT Try.prog 68 = some 3 := by kernel_rfl
theorem fld68_0 : fieldT Try.prog 68 0 = some 0 := by kernel_rfl
theorem fld68_1 : fieldT Try.prog 68 1 = some 1 := by kernel_rfl
theorem fld68_2 : fieldT Try.prog 68 2 = some 2 := by kernel_rfl
theorem size68 : (Try.prog.info? 68).map (·.size) = some 3 := by kernel_rfl
theorem zero68 : zeroT Try.prog 68 = some (Value.agg #[(Value.string (bs [])), (Value.int .i64 0), (Value.string (bs []))]) := by kernel_rfl
theorem fld85_0 : fieldT Try.prog 85 0 = some 0 := by kernel_rfl
theorem fld85_1 : fieldT Try.prog 85 1 = some 1 := by kernel_rfl
theorem one90 : oneT Try.prog 90 = true := by kernel_rfl
theorem size90 : (Try.prog.info? 90).map (·.size) = some 1 := by kernel_rfl
theorem zero90 : zeroT Try.prog 90 = some (Value.pointer none) := by kernel_rfl
theorem fld92_0 : fieldT Try.prog 92 0 = some 0 := by kernel_rfl
theorem fld92_1 : fieldT Try.prog 92 1 = some 2 := by kernel_rfl
theorem fld92_2 : fieldT Try.prog 92 2 = some 3 := by kernel_rfl
theorem agg98 : aggT Try.prog 98 = some 15 := by kernel_rfl
theorem fld98_0 : fieldT Try.prog 98 0 = some 0 := by kernel_rfl
theorem size98 : (Try.prog.info? 98).map (·.size) = some 15 := by kernel_rfl
theorem zero98 : zeroT Try.prog 98 = some (Value.agg #[(Value.string (bs [])), (Value.slice none 0 0), (Value.int .i64 0), (Value.string (bs [])), (Value.string (bs [])), (Value.slice none 0 0), (Value.slice none 0 0), (Value.slice none 0 0), (Value.slice none 0 0), (Value.string (bs [])), (Value.slice none 0 0), (Value.slice none 0 0), (Value.slice none 0 0), (Value.bool false), (Value.slice none 0 0)]) := by kernel_rfl
theorem one125 : oneT Try.prog 125 = true := by kernel_rfl
theorem one129 : oneT Try.prog 129 = true := by kernel_rfl
theorem one131 : oneT Try.prog 131 = true := by kernel_rfl
theorem ok12 : callOk Try.prog 12 = true := by kernel_rfl
theorem ok14 : callOk Try.prog 14 = true := by kernel_rfl
theorem ok16 : callOk Try.prog 16 = true := by kernel_rfl
theorem ok17 : callOk Try.prog 17 = true := by kernel_rfl
theorem ok19 : callOk Try.prog 19 = true := by kernel_rfl
theorem ok21 : callOk Try.prog 21 = true := by kernel_rfl
theorem ok22 : callOk Try.prog 22 = true := by kernel_rfl
theorem ok23 : callOk Try.prog 23 = true := by kernel_rfl
theorem ok30 : callOk Try.prog 30 = true := by kernel_rfl
theorem ok31 : callOk Try.prog 31 = true := by kernel_rfl
theorem ok32 : callOk Try.prog 32 = true := by kernel_rfl
theorem ok33 : callOk Try.prog 33 = true := by kernel_rfl
theorem ok35 : callOk Try.prog 35 = true := by kernel_rfl
theorem ok41 : callOk Try.prog 41 = true := by kernel_rfl
theorem ok42 : callOk Try.prog 42 = true := by kernel_rfl
theorem ok43 : callOk Try.prog 43 = true := by kernel_rfl
theorem ok44 : callOk Try.prog 44 = true := by kernel_rfl
theorem ok45 : callOk Try.prog 45 = true := by kernel_rfl
theorem ok46 : callOk Try.prog 46 = true := by kernel_rfl
theorem ok47 : callOk Try.prog 47 = true := by kernel_rfl
theorem ok53 : callOk Try.prog 53 = true := by kernel_rfl
theorem ok54 : callOk Try.prog 54 = true := by kernel_rfl
theorem ok55 : callOk Try.prog 55 = true := by kernel_rfl
theorem ok56 : callOk Try.prog 56 = true := by kernel_rfl
theorem ok57 : callOk Try.prog 57 = true := by kernel_rfl
theorem ok58 : callOk Try.prog 58 = true := by kernel_rfl
theorem ok60 : callOk Try.prog 60 = true := by kernel_rfl
theorem ok66 : callOk Try.prog 66 = true := by kernel_rfl
theorem ok68 : callOk Try.prog 68 = true := by kernel_rfl
theorem ok69 : callOk Try.prog 69 = true := by kernel_rfl
theorem ok70 : callOk Try.prog 70 = true := by kernel_rfl
theorem ok71 : callOk Try.prog 71 = true := by kernel_rfl
theorem ok72 : callOk Try.prog 72 = true := by kernel_rfl
theorem ok73 : callOk Try.prog 73 = true := by kernel_rfl
theorem ok74 : callOk Try.prog 74 = true := by kernel_rfl
theorem ok75 : callOk Try.prog 75 = true := by kernel_rfl
theorem ok76 : callOk Try.prog 76 = true := by kernel_rfl
theorem ok77 : callOk Try.prog 77 = true := by kernel_rfl
theorem ok78 : callOk Try.prog 78 = true := by kernel_rfl
theorem ok83 : callOk Try.prog 83 = true := by kernel_rfl
theorem ok84 : callOk Try.prog 84 = true := by kernel_rfl
theorem ok85 : callOk Try.prog 85 = true := by kernel_rfl
theorem ok86 : callOk Try.prog 86 = true := by kernel_rfl
theorem ok87 : callOk Try.prog 87 = true := by kernel_rfl
theorem ok89 : callOk Try.prog 89 = true := by kernel_rfl
theorem ok90 : callOk Try.prog 90 = true := by kernel_rfl
theorem ok97 : callOk Try.prog 97 = true := by kernel_rfl
theorem ok98 : callOk Try.prog 98 = true := by kernel_rfl
theorem ok99 : callOk Try.prog 99 = true := by kernel_rfl
theorem ok100 : callOk Try.prog 100 = true := by kernel_rfl
theorem ok101 : callOk Try.prog 101 = true := by kernel_rfl
theorem ok102 : callOk Try.prog 102 = true := by kernel_rfl
theorem ok103 : callOk Try.prog 103 = true := by kernel_rfl
theorem ok104 : callOk Try.prog 104 = true := by kernel_rfl
theorem mixed : Try.prog.follows .mixedOrders = true := by kernel_rfl
end Go.Proofs.Ythflnkfghogaoaa

namespace Go.Proofs.Ythflnkfghogaoaa
open Go.Gx Go.RowKit
attribute [local irreducible] wpList wpStill Code.wp Calls

theorem args_ret (op : Int) (w : World) : Ret Try.prog 30 #[(Value.int .i64 op)] w (fun v' w' => v' = .int .i64 (argsN op) ∧ w' = w) := by
 refine enter (N := 20) Try.func30 rfl rfl (by simp) fun a0 hN hd hA => ?_
 have s0 : a0.tmps.getD 0 undef = (Value.int .i64 op) := hA 0 (by simp)
 clear hA
 refine seq_any fun K1 hK1 => one_reg (op_assign rfl (reg_nil (hK1 _ _ (seq_any fun K2 hK2 => wp_block ?_))))
 refine seq_any fun K3 hK3 => seq_any fun K4 hK4 => ?_
 refine one_reg (op_move (ev_base hN rfl s0) (op_eql (ev_hit hN rfl) rfl (fun c5 => ?_) (fun c5 => ?_)))
 ·
  refine op_assign (ev_hit hN rfl) (reg_nil (hK4 _ _ (wp_cond_true (ev_hit hN rfl) (wp_skip (hK3 _ _ ?_)))))
  refine wp_cond_true (ev_hit hN rfl) (seq_any fun K5 hK5 => one_reg (op_assign rfl (reg_nil (hK5 _ _ (wp_ret (blk_ret (then_ret ( ?_))))))))
  refine ret1 rfl hd (ev_hit hN rfl) ⟨_, rfl, ?_⟩
  exact ⟨congrArg (Value.int .i64) (by unfold argsN; (repeat' split) <;> omega), rfl⟩
 ·
  refine op_assign (ev_hit hN rfl) (reg_nil (hK4 _ _ (wp_cond_false (ev_hit hN rfl) (one_reg (op_move (ev_base hN rfl s0) (op_eql (ev_hit hN rfl) rfl (fun c7 => ?_) (fun c7 => ?_)))))))
  ·
   refine op_assign (ev_hit hN rfl) (reg_nil (hK3 _ _ ?_))
   refine wp_cond_true (ev_hit hN rfl) (seq_any fun K6 hK6 => one_reg (op_assign rfl (reg_nil (hK6 _ _ (wp_ret (blk_ret (then_ret ( ?_))))))))
   refine ret1 rfl hd (ev_hit hN rfl) ⟨_, rfl, ?_⟩
   exact ⟨congrArg (Value.int .i64) (by unfold argsN; (repeat' split) <;> omega), rfl⟩
  ·
   refine op_assign (ev_hit hN rfl) (reg_nil (hK3 _ _ (wp_cond_false (ev_hit hN rfl) (seq_any fun K7 hK7 => seq_any fun K8 hK8 => ?_))))
   refine one_reg (op_move (ev_base hN rfl s0) (op_eql (ev_hit hN rfl) rfl (fun c10 => ?_) (fun c10 => ?_)))
   ·
    refine op_assign (ev_hit hN rfl) (reg_nil (hK8 _ _ (wp_cond_true (ev_hit hN rfl) (wp_skip (hK7 _ _ ?_)))))
    refine wp_cond_true (ev_hit hN rfl) (seq_any fun K9 hK9 => one_reg (op_assign rfl (reg_nil (hK9 _ _ (wp_ret (blk_ret (then_ret ( ?_))))))))
    refine ret1 rfl hd (ev_hit hN rfl) ⟨_, rfl, ?_⟩
    exact ⟨congrArg (Value.int .i64) (by unfold argsN; (repeat' split) <;> omega), rfl⟩
   ·
    refine op_assign (ev_hit hN rfl) (reg_nil (hK8 _ _ (wp_cond_false (ev_hit hN rfl) (one_reg (op_move (ev_base hN rfl s0) (op_eql (ev_hit hN rfl) rfl (fun c12 => ?_) (fun c12 => ?_)))))))
    ·
     refine op_assign (ev_hit hN rfl) (reg_nil (hK7 _ _ ?_))
     refine wp_cond_true (ev_hit hN rfl) (seq_any fun K10 hK10 => one_reg (op_assign rfl (reg_nil (hK10 _ _ (wp_ret (blk_ret (then_ret ( ?_))))))))
     refine ret1 rfl hd (ev_hit hN rfl) ⟨_, rfl, ?_⟩
     exact ⟨congrArg (Value.int .i64) (by unfold argsN; (repeat' split) <;> omega), rfl⟩
    ·
     refine op_assign (ev_hit hN rfl) (reg_nil (hK7 _ _ (wp_cond_false (ev_hit hN rfl) (seq_any fun K11 hK11 => ?_))))
     refine one_reg (op_move (ev_base hN rfl s0) (op_geq (ev_hit hN rfl) rfl (fun c15 => ?_) (fun c15 => ?_)))
     ·
      refine op_move (ev_hit hN rfl) (g_true (j := 2) (dj := 16) (b := true) rfl rfl rfl (ev_hit hN rfl) (op_move (ev_base hN rfl s0) (g_true (j := 2) (dj := 16) (b := true) rfl rfl rfl (ev_hit hN rfl) (op_leq (ev_hit hN rfl) rfl (fun c18 => ?_) (fun c18 => ?_)))))
      ·
       refine op_pick_t (ev_hit hN rfl) (ev_hit hN rfl) ?_
       refine op_assign (ev_hit hN rfl) (reg_nil (hK11 _ _ ?_))
       refine wp_cond_true (ev_hit hN rfl) (seq_any fun K12 hK12 => one_reg (op_assign rfl (reg_nil (hK12 _ _ (wp_ret (blk_ret (then_ret ( ?_))))))))
       refine ret1 rfl hd (ev_hit hN rfl) ⟨_, rfl, ?_⟩
       exact ⟨congrArg (Value.int .i64) (by unfold argsN; (repeat' split) <;> omega), rfl⟩
      ·
       refine op_pick_t (ev_hit hN rfl) (ev_hit hN rfl) ?_
       refine op_assign (ev_hit hN rfl) (reg_nil (hK11 _ _ (wp_cond_false (ev_hit hN rfl) (wp_skip ?_))))
       refine hK2 _ _ (seq_any fun K13 hK13 => one_reg (op_assign rfl (reg_nil (hK13 _ _ (wp_ret ?_)))))
       refine ret1 rfl hd (ev_hit hN rfl) ⟨_, rfl, ?_⟩
       exact ⟨congrArg (Value.int .i64) (by unfold argsN; (repeat' split) <;> omega), rfl⟩
     ·
      refine op_move (ev_hit hN rfl) (g_false (j := 2) (dj := 16) (b := true) rfl rfl rfl (ev_hit hN rfl) rfl rfl (g_false (j := 2) (dj := 16) (b := true) rfl rfl rfl (ev_hit hN rfl) rfl rfl (op_pick_f (ev_hit hN rfl) rfl ?_)))
      refine op_assign (ev_hit hN rfl) (reg_nil (hK11 _ _ (wp_cond_false (ev_hit hN rfl) (wp_skip ?_))))
      refine hK2 _ _ (seq_any fun K14 hK14 => one_reg (op_assign rfl (reg_nil (hK14 _ _ (wp_ret ?_)))))
      refine ret1 rfl hd (ev_hit hN rfl) ⟨_, rfl, ?_⟩
      exact ⟨congrArg (Value.int .i64) (by unfold argsN; (repeat' split) <;> omega), rfl⟩

theorem column_ret (C : List PItm) (K : List Int) (vc vk : Value) (tb nm : List UInt8) (w : World) (hz0 : C.length ≤ 9223372036854775807) (hz1 : K.length ≤ 9223372036854775807) (hC : RdC w 0 w.heap.size 3 vc C.length (C.flatMap cellsI)) (hK : RdC w 0 w.heap.size 1 vk K.length (K.map (Value.int .i64))) : Ret Try.prog 66 #[vc, vk, (Value.string (bs tb)), (Value.string (bs nm))] w (fun v' w' => Below w.heap.size w w' ∧ v' = .tuple #[.int .i64 (colAt C K tb nm).1, .int .i64 (colAt C K tb nm).2]) := by
 have hb := Below.refl w.heap.size w
 refine enter (N := 51) Try.func66 rfl rfl (by simp) fun a0 hN hd hA => ?_
 have s0 : a0.tmps.getD 0 undef = vc := hA 0 (by simp)
 have s1 : a0.tmps.getD 1 undef = vk := hA 1 (by simp)
 have s2 : a0.tmps.getD 2 undef = (Value.string (bs tb)) := hA 2 (by simp)
 have s3 : a0.tmps.getD 3 undef = (Value.string (bs nm)) := hA 3 (by simp)
 clear hA
 refine seq_any fun K15 hK15 => one_reg (op_assign rfl ?_)
 refine op_assign rfl (reg_nil (hK15 _ _ (seq_any fun K16 hK16 => one_reg (op_assign rfl (op_assign rfl ?_)))))
 refine reg_nil (hK16 _ _ (seq_any fun K17 hK17 => seq_any fun K18 hK18 => one_reg (op_move (ev_base hN rfl s0) (op_len_rd Try.underlying22 (ev_hit hN rfl) hC ?_))))
 refine op_move (ev_base hN rfl s1) (op_len_rd Try.underlying23 (ev_hit hN rfl) hK ?_)
 refine op_min (r := ((min C.length K.length : Nat) : Int)) (ev_hit hN rfl) (ev_hit hN rfl) (by omega) ?_
 refine op_move rfl (reg_nil (hK18 _ _ (wp_block ?_)))
 refine loop_m (fun mz_ az_ w' => ∃ (i : Nat), mz_ = min C.length K.length - i ∧ (az_.tmps.getD 0 undef = vc) ∧ (az_.tmps.getD 1 undef = vk) ∧ (az_.tmps.getD 2 undef = (Value.string (bs tb))) ∧ (az_.tmps.getD 3 undef = (Value.string (bs nm))) ∧ (az_.tmps.getD 8 undef = (Value.int .i64 0)) ∧ (az_.tmps.getD 9 undef = (Value.int .i64 0)) ∧ (az_.tmps.getD 17 undef = (Value.int .i64 ((min C.length K.length : Nat) : Int))) ∧ (az_.tmps.getD 10 undef = (Value.int .i64 ((hits (C.take i) (K.take i) tb nm).getLastD 0))) ∧ (az_.tmps.getD 11 undef = (Value.int .i64 (((hits (C.take i) (K.take i) tb nm).length : Nat) : Int))) ∧ (az_.tmps.getD 18 undef = (Value.int .i64 ((i : Nat) : Int))) ∧ (i ≤ min C.length K.length) ∧ w = w') _ hN hd ⟨0, rfl, (sl_base hN rfl s0), (sl_base hN rfl s1), (sl_base hN rfl s2), (sl_base hN rfl s3), (sl_hit hN rfl), (sl_hit hN rfl), (sl_hit hN rfl), (sl_hit hN rfl), (sl_hit hN rfl), (sl_hit hN rfl), Nat.zero_le _, rfl⟩ ?_
 rintro _ a19 _ hN19 hd19 ⟨i, rfl, s19_0, s19_1, s19_2, s19_3, s19_8, s19_9, s19_17, s19_10, s19_11, s19_18, hi, rfl⟩
 refine seq_any fun K20 hK20 => ?_
 refine one_reg (op_lss (ev_base hN19 rfl s19_18) (ev_base hN19 rfl s19_17) (fun c19 => ?_) (fun c19 => ?_))
 ·
  refine reg_nil ?_
  refine hK20 _ _ (seq_any fun K21 hK21 => wp_cond_true (ev_hit hN19 rfl) (wp_skip (hK21 _ _ (seq_any fun K22 hK22 => wp_block ?_))))
  refine seq_any fun K23 hK23 => one_reg (op_move (ev_base hN19 rfl s19_18) (op_assign (ev_hit hN19 rfl) ?_))
  refine reg_nil (hK23 _ _ (seq_any fun K24 hK24 => one_reg (op_move (ev_base hN19 rfl s19_0) (op_move (ev_hit hN19 rfl) (op_index_rd slt22 (ev_hit hN19 rfl) hC (ev_hit hN19 rfl) (by omega) (by omega) ?_)))))
  intro b25 o26 h0b25 h1b25 hc27
  refine op_field fld63_2 (ev_hit hN19 rfl) (op_load1 (v := (Value.string (bs (C.getD i default).nm))) one9 (ev_hit hN19 rfl) (hc27 2 ((Value.string (bs (C.getD i default).nm))) (by decide) ((el_pi (i := i) (by omega) (by omega)) 2 ((Value.string (bs (C.getD i default).nm))) rfl)) (op_move (ev_base hN19 rfl s19_3) (op_seql (ev_hit hN19 rfl) (ev_hit hN19 rfl) (fun c27 => ?_) (fun c27 => ?_))))
  ·
   refine op_move (ev_hit hN19 rfl) (g_true (j := 7) (dj := 28) (b := true) rfl rfl rfl (ev_hit hN19 rfl) (op_move (ev_base hN19 rfl s19_2) (g_true (j := 7) (dj := 28) (b := true) rfl rfl rfl (ev_hit hN19 rfl) (op_seql (ev_hit hN19 rfl) rfl (fun c30 => ?_) (fun c30 => ?_)))))
   ·
    refine g_true (j := 7) (dj := 28) (b := true) rfl rfl rfl (ev_hit hN19 rfl) (op_move (ev_hit hN19 rfl) (g_false (j := 10) (dj := 31) (b := false) rfl rfl rfl (ev_hit hN19 rfl) rfl rfl (g_false (j := 10) (dj := 31) (b := false) rfl rfl rfl (ev_hit hN19 rfl) rfl rfl ?_)))
    refine g_false (j := 10) (dj := 31) (b := false) rfl rfl rfl (ev_hit hN19 rfl) rfl rfl (g_false (j := 10) (dj := 31) (b := false) rfl rfl rfl (ev_hit hN19 rfl) rfl rfl (g_false (j := 10) (dj := 31) (b := false) rfl rfl rfl (ev_hit hN19 rfl) rfl rfl (g_false (j := 10) (dj := 31) (b := false) rfl rfl rfl (ev_hit hN19 rfl) rfl rfl (g_false (j := 10) (dj := 31) (b := false) rfl rfl rfl (ev_hit hN19 rfl) rfl rfl (g_true (j := 7) (dj := 28) (b := true) rfl rfl rfl (ev_hit hN19 rfl) (op_pick_t (ev_hit hN19 rfl) rfl ?_))))))
    refine op_pick_t (ev_hit hN19 rfl) (ev_hit hN19 rfl) ?_
    refine reg_nil ?_
    refine hK24 _ _ (wp_cond_true (ev_hit hN19 rfl) (seq_any fun K28 hK28 => one_reg (op_move (ev_base hN19 rfl s19_1) (op_move (ev_hit hN19 rfl) (op_index_rd slt23 (ev_hit hN19 rfl) hK (ev_hit hN19 rfl) (by omega) (by omega) ?_)))))
    intro b29 o30 h0b29 h1b29 hc31
    refine op_load1 (v := (Value.int .i64 (K.getD i 0))) one3 (ev_hit hN19 rfl) (by have := hc31 0 (Value.int .i64 (K.getD i 0)) (by decide) (el_i64 (i := i) (by omega) (by omega)); simpa using this) (op_assign (ev_hit hN19 rfl) (reg_nil (hK28 _ _ (one_reg ?_))))
    have hle := @hits_le (C.take i) (K.take i) tb nm
    rw [List.length_take] at hle
    refine op_move (ev_base hN19 rfl s19_11) (op_add (ev_hit hN19 rfl) rfl (add64 (by omega)) ?_)
    refine op_assign (ev_hit hN19 rfl) (reg_nil (hK22 _ _ (one_reg (op_add (ev_base hN19 rfl s19_18) rfl (add64 (by omega)) ?_))))
    refine op_move (ev_hit hN19 rfl) (reg_nil ?_)
    -- round 19T 27T 30T
    exact loop_next _ hN19 hd19 ⟨(i + 1), rfl, (sl_base hN19 rfl s19_0), (sl_base hN19 rfl s19_1), (sl_base hN19 rfl s19_2), (sl_base hN19 rfl s19_3), (sl_base hN19 rfl s19_8), (sl_base hN19 rfl s19_9), (sl_base hN19 rfl s19_17), (sl_hit hN19 rfl).trans (congrArg (Value.int .i64) (by rw [hits_t (by omega) (by omega) (isCol_t c27 (.inl c30))]; simp)), (sl_hit hN19 rfl).trans (congrArg (Value.int .i64) (by rw [hits_t (by omega) (by omega) (isCol_t c27 (.inl c30))]; simp)), (sl_hit hN19 rfl).trans (congrArg (Value.int .i64) (by omega)), (by omega), rfl⟩ (by omega)
   ·
    refine g_true (j := 7) (dj := 28) (b := true) rfl rfl rfl (ev_hit hN19 rfl) ?_
    refine op_move (ev_hit hN19 rfl) (g_true (j := 10) (dj := 31) (b := false) rfl rfl rfl (ev_hit hN19 rfl) (op_move (ev_base hN19 rfl s19_0) (g_true (j := 10) (dj := 31) (b := false) rfl rfl rfl (ev_hit hN19 rfl) (op_move (ev_hit hN19 rfl) (g_true (j := 10) (dj := 31) (b := false) rfl rfl rfl (ev_hit hN19 rfl) (op_index_rd slt22 (ev_hit hN19 rfl) hC (ev_hit hN19 rfl) (by omega) (by omega) ?_))))))
    intro b32 o33 h0b32 h1b32 hc34
    refine g_true (j := 10) (dj := 31) (b := false) rfl rfl rfl (ev_hit hN19 rfl) ?_
    refine op_field fld63_1 (ev_hit hN19 rfl) (g_true (j := 10) (dj := 31) (b := false) rfl rfl rfl (ev_hit hN19 rfl) (op_load1 (v := (Value.string (bs (C.getD i default).tb))) one9 (ev_hit hN19 rfl) (hc34 1 ((Value.string (bs (C.getD i default).tb))) (by decide) ((el_pi (i := i) (by omega) (by omega)) 1 ((Value.string (bs (C.getD i default).tb))) rfl)) (g_true (j := 10) (dj := 31) (b := false) rfl rfl rfl (ev_hit hN19 rfl) (op_move (ev_base hN19 rfl s19_2) (g_true (j := 10) (dj := 31) (b := false) rfl rfl rfl (ev_hit hN19 rfl) (op_seql (ev_hit hN19 rfl) (ev_hit hN19 rfl) (fun c38 => ?_) (fun c38 => ?_)))))))
    ·
     refine g_true (j := 7) (dj := 28) (b := true) rfl rfl rfl (ev_hit hN19 rfl) (op_pick_f (ev_hit hN19 rfl) (ev_hit hN19 rfl) ?_)
     refine op_pick_t (ev_hit hN19 rfl) (ev_hit hN19 rfl) ?_
     refine reg_nil ?_
     refine hK24 _ _ (wp_cond_true (ev_hit hN19 rfl) (seq_any fun K35 hK35 => one_reg (op_move (ev_base hN19 rfl s19_1) (op_move (ev_hit hN19 rfl) (op_index_rd slt23 (ev_hit hN19 rfl) hK (ev_hit hN19 rfl) (by omega) (by omega) ?_)))))
     intro b36 o37 h0b36 h1b36 hc38
     refine op_load1 (v := (Value.int .i64 (K.getD i 0))) one3 (ev_hit hN19 rfl) (by have := hc38 0 (Value.int .i64 (K.getD i 0)) (by decide) (el_i64 (i := i) (by omega) (by omega)); simpa using this) (op_assign (ev_hit hN19 rfl) (reg_nil (hK35 _ _ (one_reg ?_))))
     have hle := @hits_le (C.take i) (K.take i) tb nm
     rw [List.length_take] at hle
     refine op_move (ev_base hN19 rfl s19_11) (op_add (ev_hit hN19 rfl) rfl (add64 (by omega)) ?_)
     refine op_assign (ev_hit hN19 rfl) (reg_nil (hK22 _ _ (one_reg (op_add (ev_base hN19 rfl s19_18) rfl (add64 (by omega)) ?_))))
     refine op_move (ev_hit hN19 rfl) (reg_nil ?_)
     -- round 19T 27T 30F 38T
     exact loop_next _ hN19 hd19 ⟨(i + 1), rfl, (sl_base hN19 rfl s19_0), (sl_base hN19 rfl s19_1), (sl_base hN19 rfl s19_2), (sl_base hN19 rfl s19_3), (sl_base hN19 rfl s19_8), (sl_base hN19 rfl s19_9), (sl_base hN19 rfl s19_17), (sl_hit hN19 rfl).trans (congrArg (Value.int .i64) (by rw [hits_t (by omega) (by omega) (isCol_t c27 (.inr c38))]; simp)), (sl_hit hN19 rfl).trans (congrArg (Value.int .i64) (by rw [hits_t (by omega) (by omega) (isCol_t c27 (.inr c38))]; simp)), (sl_hit hN19 rfl).trans (congrArg (Value.int .i64) (by omega)), (by omega), rfl⟩ (by omega)
    ·
     refine g_true (j := 7) (dj := 28) (b := true) rfl rfl rfl (ev_hit hN19 rfl) (op_pick_f (ev_hit hN19 rfl) (ev_hit hN19 rfl) ?_)
     refine op_pick_t (ev_hit hN19 rfl) (ev_hit hN19 rfl) ?_
     refine reg_nil (hK24 _ _ (wp_cond_false (ev_hit hN19 rfl) (wp_skip (hK22 _ _ (one_reg (op_add (ev_base hN19 rfl s19_18) rfl (add64 (by omega)) ?_))))))
     refine op_move (ev_hit hN19 rfl) (reg_nil ?_)
     -- round 19T 27T 30F 38F
     exact loop_next _ hN19 hd19 ⟨(i + 1), rfl, (sl_base hN19 rfl s19_0), (sl_base hN19 rfl s19_1), (sl_base hN19 rfl s19_2), (sl_base hN19 rfl s19_3), (sl_base hN19 rfl s19_8), (sl_base hN19 rfl s19_9), (sl_base hN19 rfl s19_17), (sl_base hN19 rfl s19_10).trans (congrArg (Value.int .i64) (by rw [hits_f (by omega) (by omega) (isCol_f2 c30 c38)])), (sl_base hN19 rfl s19_11).trans (congrArg (Value.int .i64) (by rw [hits_f (by omega) (by omega) (isCol_f2 c30 c38)])), (sl_hit hN19 rfl).trans (congrArg (Value.int .i64) (by omega)), (by omega), rfl⟩ (by omega)
  ·
   refine op_move (ev_hit hN19 rfl) (g_false (j := 7) (dj := 28) (b := true) rfl rfl rfl (ev_hit hN19 rfl) rfl rfl (g_false (j := 7) (dj := 28) (b := true) rfl rfl rfl (ev_hit hN19 rfl) rfl rfl (g_false (j := 7) (dj := 28) (b := true) rfl rfl rfl (ev_hit hN19 rfl) rfl rfl (g_undef (j := 10) (dj := 31) (b := false) rfl rfl rfl (ev_hit hN19 rfl) rfl ?_))))
   refine g_undef (j := 10) (dj := 31) (b := false) rfl rfl rfl (ev_hit hN19 rfl) rfl ?_
   refine g_undef (j := 10) (dj := 31) (b := false) rfl rfl rfl (ev_hit hN19 rfl) rfl ?_
   refine g_undef (j := 10) (dj := 31) (b := false) rfl rfl rfl (ev_hit hN19 rfl) rfl ?_
   refine g_undef (j := 10) (dj := 31) (b := false) rfl rfl rfl (ev_hit hN19 rfl) rfl ?_
   refine g_undef (j := 10) (dj := 31) (b := false) rfl rfl rfl (ev_hit hN19 rfl) rfl ?_
   refine g_undef (j := 10) (dj := 31) (b := false) rfl rfl rfl (ev_hit hN19 rfl) rfl ?_
   refine g_false (j := 7) (dj := 28) (b := true) rfl rfl rfl (ev_hit hN19 rfl) rfl rfl (op_pick_f (ev_hit hN19 rfl) rfl ?_)
   refine reg_nil (hK24 _ _ (wp_cond_false (ev_hit hN19 rfl) (wp_skip (hK22 _ _ (one_reg (op_add (ev_base hN19 rfl s19_18) rfl (add64 (by omega)) ?_))))))
   refine op_move (ev_hit hN19 rfl) (reg_nil ?_)
   -- round 19T 27F
   exact loop_next _ hN19 hd19 ⟨(i + 1), rfl, (sl_base hN19 rfl s19_0), (sl_base hN19 rfl s19_1), (sl_base hN19 rfl s19_2), (sl_base hN19 rfl s19_3), (sl_base hN19 rfl s19_8), (sl_base hN19 rfl s19_9), (sl_base hN19 rfl s19_17), (sl_base hN19 rfl s19_10).trans (congrArg (Value.int .i64) (by rw [hits_f (by omega) (by omega) (isCol_f1 c27)])), (sl_base hN19 rfl s19_11).trans (congrArg (Value.int .i64) (by rw [hits_f (by omega) (by omega) (isCol_f1 c27)])), (sl_hit hN19 rfl).trans (congrArg (Value.int .i64) (by omega)), (by omega), rfl⟩ (by omega)
 ·
  refine reg_nil (hK20 _ _ (seq_any fun K39 hK39 => wp_cond_false (ev_hit hN19 rfl) (wp_exit (then_exit (then_exit (blk_hit ?_))))))
  refine hK17 _ _ (seq_any fun K40 hK40 => seq_any fun K41 hK41 => ?_)
  refine one_reg (op_move (ev_base hN19 rfl s19_11) (op_neq (ev_hit hN19 rfl) rfl (fun c49 => ?_) (fun c49 => ?_)))
  ·
   refine reg_nil (hK41 _ _ (wp_cond_true (ev_hit hN19 rfl) ?_))
   refine seq_any fun K42 hK42 => one_reg (op_assign rfl (op_assign rfl (reg_nil (hK42 _ _ (wp_ret (then_ret ( ?_)))))))
   refine ret2 rfl hd19 (ev_hit hN19 rfl) (ev_hit hN19 rfl) ⟨_, rfl, ?_⟩
   have e9 : colAt C K tb nm = (0, 10) := by rw [hits_all (i := i) (by omega)] at c49; unfold colAt colOf; rw [if_neg (by omega)]
   rw [e9]; exact ⟨hb, rfl⟩
  ·
   refine reg_nil (hK41 _ _ (wp_cond_false (ev_hit hN19 rfl) (wp_skip (hK40 _ _ (seq_any fun K43 hK43 => ?_)))))
   refine one_reg (op_move (ev_base hN19 rfl s19_10) (op_assign (ev_hit hN19 rfl) (op_assign rfl (reg_nil (hK43 _ _ (wp_ret ?_))))))
   refine ret2 rfl hd19 (ev_hit hN19 rfl) (ev_hit hN19 rfl) ⟨_, rfl, ?_⟩
   have e9 : colAt C K tb nm = ((hits (C.take i) (K.take i) tb nm).getLastD 0, 0) := by rw [hits_all (i := i) (by omega)] at c49; unfold colAt colOf; rw [if_pos (by omega)]; rw [hits_all (i := i) (by omega)]
   rw [e9]; exact ⟨hb, rfl⟩

theorem of_ret (C : List PItm) (K : List Int) (vc vk : Value) (e : XE) (l : List Int) (vl : Value) (w : World) (hz0 : C.length ≤ 9223372036854775807) (hz1 : K.length ≤ 9223372036854775807) (hl : (l.length : Int) = argsN e.op) (hC : RdC w 0 w.heap.size 3 vc C.length (C.flatMap cellsI)) (hK : RdC w 0 w.heap.size 1 vk K.length (K.map (Value.int .i64))) (hL : RdC w 0 w.heap.size 1 vl l.length (l.map (Value.int .i64))) : Ret Try.prog 33 #[vc, vk, (Value.agg #[(Value.int .i64 e.op), (Value.int .i64 e.vk), (Value.int .i64 e.vi), (Value.string (bs e.vt)), (Value.string (bs e.tb)), (Value.string (bs e.nm)), e.av]), vl] w (fun v' w' => Below w.heap.size w w' ∧ v' = .tuple #[.int .i64 (ofX C K e.op e.vk e.tb e.nm l).1, .int .i64 (ofX C K e.op e.vk e.tb e.nm l).2]) := by
 have hz2 : l.length ≤ 2 := by have h9 := hl; unfold argsN at h9; (repeat' split at h9) <;> omega
 have hb := Below.refl w.heap.size w
 refine enter (N := 63) Try.func33 rfl rfl (by simp) fun a0 hN hd hA => ?_
 have s0 : a0.tmps.getD 0 undef = vc := hA 0 (by simp)
 have s1 : a0.tmps.getD 1 undef = vk := hA 1 (by simp)
 have s2 : a0.tmps.getD 2 undef = (Value.agg #[(Value.int .i64 e.op), (Value.int .i64 e.vk), (Value.int .i64 e.vi), (Value.string (bs e.vt)), (Value.string (bs e.tb)), (Value.string (bs e.nm)), e.av]) := hA 2 (by simp)
 have s3 : a0.tmps.getD 3 undef = vl := hA 3 (by simp)
 clear hA
 refine seq_any fun K1 hK1 => one_reg (op_box (cs := [(Value.int .i64 e.op), (Value.int .i64 e.vk), (Value.int .i64 e.vi), (Value.string (bs e.vt)), (Value.string (bs e.tb)), (Value.string (bs e.nm)), e.av]) (ev_base hN rfl s2) rfl ?_)
 intro w2 b3 lo_b3 hi_b3 hB5 E4
 have z_w2 := E4.size
 have hC := hC.keep0 E4
 have hK := hK.keep0 E4
 have hL := hL.keep0 E4
 have hb := below_step0 hb E4 hb.size
 refine op_assign rfl (op_assign rfl (reg_nil (hK1 _ _ (seq_any fun K6 hK6 => ?_))))
 refine one_reg (op_assign rfl (op_assign rfl (reg_nil (hK6 _ _ (seq_join1 (N := 63) (fun az_ w' => ∃ (mu co : Int), (az_.tmps.getD 3 undef = vl) ∧ (az_.tmps.getD 10 undef = (Value.int .i64 mu)) ∧ (az_.tmps.getD 11 undef = (Value.int .i64 co)) ∧ (e.op ≠ 1 ∧ e.op ≠ 2 ∧ ¬ (8 ≤ e.op ∧ e.op ≤ 13 ∧ l.getD 0 0 ≠ 1 ∧ l.getD 0 0 ≠ 2)) ∧ (mu = takesX e.op l) ∧ (co = givesX e.op) ∧ (Below w.heap.size w w') ∧ (w2.heap.size ≤ w'.heap.size) ∧ (RdC w' 0 w.heap.size 3 vc C.length (C.flatMap cellsI)) ∧ (RdC w' 0 w.heap.size 1 vk K.length (K.map (Value.int .i64))) ∧ (RdC w' 0 w.heap.size 1 vl l.length (l.map (Value.int .i64))) ∧ (Bx w' b3 28 [(Value.int .i64 e.op), (Value.int .i64 e.vk), (Value.int .i64 e.vi), (Value.string (bs e.vt)), (Value.string (bs e.tb)), (Value.string (bs e.nm)), e.av])) (fun hJ7 => ?_) ?_)))))
 ·
  refine seq_any fun K8 hK8 => ?_
  refine seq_any fun K9 hK9 => one_reg (op_field fld28_0 (ev_hit hN rfl) (op_load1 (v := (Value.int .i64 e.op)) one3 (ev_hit hN rfl) (hB5.cell rfl) (reg_nil (hK9 _ _ (wp_block ?_)))))
  refine seq_any fun K10 hK10 => ?_
  refine one_reg (op_eql (ev_hit hN rfl) rfl (fun c17 => ?_) (fun c17 => ?_))
  ·
   refine op_assign (ev_hit hN rfl) (reg_nil (hK10 _ _ (wp_cond_true (ev_hit hN rfl) (seq_any fun K11 hK11 => one_reg (op_field fld28_1 (ev_hit hN rfl) ?_)))))
   refine op_field fld25_0 (ev_hit hN rfl) (op_load1 (v := (Value.int .i64 e.vk)) one3 (ev_hit hN rfl) (hB5.cell rfl) (op_assign (ev_hit hN rfl) (op_assign rfl (reg_nil (hK11 _ _ (wp_ret (blk_ret (then_ret ( ?_)))))))))
   refine ret2 rfl hd (ev_hit hN rfl) (ev_hit hN rfl) ⟨_, rfl, ?_⟩
   have e9 : ofX C K e.op e.vk e.tb e.nm l = (e.vk, 0) := by unfold ofX; rw [if_pos c17]
   rw [e9]; exact ⟨hb, rfl⟩
  ·
   refine op_assign (ev_hit hN rfl) (reg_nil (hK10 _ _ (wp_cond_false (ev_hit hN rfl) (seq_any fun K12 hK12 => ?_))))
   refine one_reg (op_eql (ev_hit hN rfl) rfl (fun c22 => ?_) (fun c22 => ?_))
   ·
    refine op_assign (ev_hit hN rfl) (reg_nil (hK12 _ _ (wp_cond_true (ev_hit hN rfl) (seq_any fun K13 hK13 => one_reg ?_))))
    refine op_move (ev_base hN rfl s0) (op_move (ev_base hN rfl s1) (op_field fld28_2 (ev_hit hN rfl) (op_load1 (v := (Value.string (bs e.tb))) one9 (ev_hit hN rfl) (hB5.cell rfl) (op_field fld28_3 (ev_hit hN rfl) (op_load1 (v := (Value.string (bs e.nm))) one9 (ev_hit hN rfl) (hB5.cell rfl) (op_fn (vs := [vc, vk, (Value.string (bs e.tb)), (Value.string (bs e.nm))]) ok66 ⟨(ev_hit hN rfl), ⟨(ev_hit hN rfl), ⟨(ev_hit hN rfl), ⟨(ev_hit hN rfl), trivial⟩⟩⟩⟩ (column_ret C K _ _ e.tb e.nm _ (by first | assumption | omega | (simp only [List.length_append, List.length_cons, List.length_nil, List.length_drop, List.length_take]; omega) | (dsimp only; omega) | decide | (simp [keyV, be8_len]; done)) (by first | assumption | omega | (simp only [List.length_append, List.length_cons, List.length_nil, List.length_drop, List.length_take]; omega) | (dsimp only; omega) | decide | (simp [keyV, be8_len]; done)) (hC.mono (Nat.zero_le _) (by omega)) (hK.mono (Nat.zero_le _) (by omega))) ?_))))))
    rintro _ w14 ⟨E15, rfl⟩
    have E15 := grown_of_below E15
    have z_w14 := E15.size
    have hb := below_step0 hb E15 hb.size
    refine op_extract (ev_hit hN rfl) rfl ?_
    refine op_extract (ev_hit hN rfl) rfl ?_
    refine op_assign (ev_hit hN rfl) (op_assign (ev_hit hN rfl) (reg_nil (hK13 _ _ (wp_ret (blk_ret (then_ret ( ?_)))))))
    refine ret2 rfl hd (ev_hit hN rfl) (ev_hit hN rfl) ⟨_, rfl, ?_⟩
    have e9 : ofX C K e.op e.vk e.tb e.nm l = colAt C K e.tb e.nm := by unfold ofX; rw [if_neg c17, if_pos c22]
    rw [e9]; exact ⟨hb, rfl⟩
   ·
    refine op_assign (ev_hit hN rfl) (reg_nil (hK12 _ _ (wp_cond_false (ev_hit hN rfl) (seq_any fun K16 hK16 => seq_any fun K17 hK17 => ?_))))
    refine one_reg (op_eql (ev_hit hN rfl) rfl (fun c33 => ?_) (fun c33 => ?_))
    ·
     refine op_assign (ev_hit hN rfl) (reg_nil (hK17 _ _ (wp_cond_true (ev_hit hN rfl) (wp_skip ?_))))
     refine hK16 _ _ (wp_cond_true (ev_hit hN rfl) (one_reg (op_assign rfl (op_assign rfl (reg_nil (hK8 _ _ ?_))))))
     exact hJ7 _ _ _ hN hd ⟨3, 3, (sl_base hN rfl s3), (sl_hit hN rfl), (sl_hit hN rfl), (by omega), (by unfold takesX; (repeat' split) <;> first | rfl | omega), (by unfold givesX; (repeat' split) <;> first | rfl | omega), hb, (by omega), hC, hK, hL, hB5⟩
    ·
     refine op_assign (ev_hit hN rfl) (reg_nil (hK17 _ _ (wp_cond_false (ev_hit hN rfl) (seq_any fun K18 hK18 => ?_))))
     refine one_reg (op_eql (ev_hit hN rfl) rfl (fun c34 => ?_) (fun c34 => ?_))
     ·
      refine op_assign (ev_hit hN rfl) (reg_nil (hK18 _ _ (wp_cond_true (ev_hit hN rfl) (wp_skip ?_))))
      refine hK16 _ _ (wp_cond_true (ev_hit hN rfl) (one_reg (op_assign rfl (op_assign rfl (reg_nil (hK8 _ _ ?_))))))
      exact hJ7 _ _ _ hN hd ⟨3, 3, (sl_base hN rfl s3), (sl_hit hN rfl), (sl_hit hN rfl), (by omega), (by unfold takesX; (repeat' split) <;> first | rfl | omega), (by unfold givesX; (repeat' split) <;> first | rfl | omega), hb, (by omega), hC, hK, hL, hB5⟩
     ·
      refine op_assign (ev_hit hN rfl) (reg_nil (hK18 _ _ (wp_cond_false (ev_hit hN rfl) (one_reg (op_eql (ev_hit hN rfl) rfl (fun c35 => ?_) (fun c35 => ?_))))))
      ·
       refine op_assign (ev_hit hN rfl) (reg_nil ?_)
       refine hK16 _ _ (wp_cond_true (ev_hit hN rfl) (one_reg (op_assign rfl (op_assign rfl (reg_nil (hK8 _ _ ?_))))))
       exact hJ7 _ _ _ hN hd ⟨3, 3, (sl_base hN rfl s3), (sl_hit hN rfl), (sl_hit hN rfl), (by omega), (by unfold takesX; (repeat' split) <;> first | rfl | omega), (by unfold givesX; (repeat' split) <;> first | rfl | omega), hb, (by omega), hC, hK, hL, hB5⟩
      ·
       refine op_assign (ev_hit hN rfl) (reg_nil (hK16 _ _ (wp_cond_false (ev_hit hN rfl) (seq_any fun K19 hK19 => seq_any fun K20 hK20 => ?_))))
       refine one_reg (op_eql (ev_hit hN rfl) rfl (fun c37 => ?_) (fun c37 => ?_))
       ·
        refine op_assign (ev_hit hN rfl) (reg_nil (hK20 _ _ ?_))
        refine wp_cond_true (ev_hit hN rfl) (wp_skip (hK19 _ _ (wp_cond_true (ev_hit hN rfl) (seq_any fun K21 hK21 => one_reg (op_move (ev_base hN rfl s3) ?_)))))
        have hl0 : 0 < l.length := by rw [argsN_two (by omega)] at hl; omega
        refine op_index_rd slt23 (ev_hit hN rfl) hL rfl (by omega) (by omega) ?_
        intro b22 o23 h0b22 h1b22 hc24
        refine op_load1 (v := (Value.int .i64 (l.getD 0 0))) one3 (ev_hit hN rfl) (by have := hc24 0 (Value.int .i64 (l.getD 0 0)) (by decide) (el_i64 (i := 0) (by omega) (by omega)); simpa using this) (op_assign (ev_hit hN rfl) (op_assign rfl (reg_nil (hK21 _ _ (seq_any fun K25 hK25 => ?_)))))
        refine one_reg (op_move (ev_hit hN rfl) (op_neq (ev_hit hN rfl) rfl (fun c47 => ?_) (fun c47 => ?_)))
        ·
         refine op_move (ev_hit hN rfl) (g_true (j := 2) (dj := 48) (b := true) rfl rfl rfl (ev_hit hN rfl) (op_move (ev_hit hN rfl) (g_true (j := 2) (dj := 48) (b := true) rfl rfl rfl (ev_hit hN rfl) (op_neq (ev_hit hN rfl) rfl (fun c50 => ?_) (fun c50 => ?_)))))
         ·
          refine op_pick_t (ev_hit hN rfl) (ev_hit hN rfl) ?_
          refine reg_nil (hK25 _ _ (wp_cond_true (ev_hit hN rfl) ?_))
          refine seq_any fun K26 hK26 => one_reg (op_assign rfl (op_assign rfl (reg_nil (hK26 _ _ (wp_ret (blk_ret (then_ret ( ?_))))))))
          refine ret2 rfl hd (ev_hit hN rfl) (ev_hit hN rfl) ⟨_, rfl, ?_⟩
          have e9 : ofX C K e.op e.vk e.tb e.nm l = (0, 11) := by exact ofX_bad (by omega)
          rw [e9]; exact ⟨hb, rfl⟩
         ·
          refine op_pick_t (ev_hit hN rfl) (ev_hit hN rfl) ?_
          refine reg_nil (hK25 _ _ (wp_cond_false (ev_hit hN rfl) (wp_skip (hK8 _ _ ?_))))
          exact hJ7 _ _ _ hN hd ⟨(l.getD 0 0), 3, (sl_base hN rfl s3), (sl_hit hN rfl), (sl_hit hN rfl), (by omega), (by unfold takesX; (repeat' split) <;> first | rfl | omega), (by unfold givesX; (repeat' split) <;> first | rfl | omega), hb, (by omega), hC, hK, hL, hB5⟩
        ·
         refine op_move (ev_hit hN rfl) (g_false (j := 2) (dj := 48) (b := true) rfl rfl rfl (ev_hit hN rfl) rfl rfl (g_false (j := 2) (dj := 48) (b := true) rfl rfl rfl (ev_hit hN rfl) rfl rfl (op_pick_f (ev_hit hN rfl) rfl ?_)))
         refine reg_nil (hK25 _ _ (wp_cond_false (ev_hit hN rfl) (wp_skip (hK8 _ _ ?_))))
         exact hJ7 _ _ _ hN hd ⟨(l.getD 0 0), 3, (sl_base hN rfl s3), (sl_hit hN rfl), (sl_hit hN rfl), (by omega), (by unfold takesX; (repeat' split) <;> first | rfl | omega), (by unfold givesX; (repeat' split) <;> first | rfl | omega), hb, (by omega), hC, hK, hL, hB5⟩
       ·
        refine op_assign (ev_hit hN rfl) (reg_nil (hK20 _ _ (wp_cond_false (ev_hit hN rfl) (seq_any fun K27 hK27 => ?_))))
        refine one_reg (op_eql (ev_hit hN rfl) rfl (fun c38 => ?_) (fun c38 => ?_))
        ·
         refine op_assign (ev_hit hN rfl) (reg_nil (hK27 _ _ ?_))
         refine wp_cond_true (ev_hit hN rfl) (wp_skip (hK19 _ _ (wp_cond_true (ev_hit hN rfl) (seq_any fun K28 hK28 => one_reg (op_move (ev_base hN rfl s3) ?_)))))
         have hl0 : 0 < l.length := by rw [argsN_two (by omega)] at hl; omega
         refine op_index_rd slt23 (ev_hit hN rfl) hL rfl (by omega) (by omega) ?_
         intro b29 o30 h0b29 h1b29 hc31
         refine op_load1 (v := (Value.int .i64 (l.getD 0 0))) one3 (ev_hit hN rfl) (by have := hc31 0 (Value.int .i64 (l.getD 0 0)) (by decide) (el_i64 (i := 0) (by omega) (by omega)); simpa using this) (op_assign (ev_hit hN rfl) (op_assign rfl (reg_nil (hK28 _ _ (seq_any fun K32 hK32 => ?_)))))
         refine one_reg (op_move (ev_hit hN rfl) (op_neq (ev_hit hN rfl) rfl (fun c47 => ?_) (fun c47 => ?_)))
         ·
          refine op_move (ev_hit hN rfl) (g_true (j := 2) (dj := 48) (b := true) rfl rfl rfl (ev_hit hN rfl) (op_move (ev_hit hN rfl) (g_true (j := 2) (dj := 48) (b := true) rfl rfl rfl (ev_hit hN rfl) (op_neq (ev_hit hN rfl) rfl (fun c50 => ?_) (fun c50 => ?_)))))
          ·
           refine op_pick_t (ev_hit hN rfl) (ev_hit hN rfl) ?_
           refine reg_nil (hK32 _ _ (wp_cond_true (ev_hit hN rfl) ?_))
           refine seq_any fun K33 hK33 => one_reg (op_assign rfl (op_assign rfl (reg_nil (hK33 _ _ (wp_ret (blk_ret (then_ret ( ?_))))))))
           refine ret2 rfl hd (ev_hit hN rfl) (ev_hit hN rfl) ⟨_, rfl, ?_⟩
           have e9 : ofX C K e.op e.vk e.tb e.nm l = (0, 11) := by exact ofX_bad (by omega)
           rw [e9]; exact ⟨hb, rfl⟩
          ·
           refine op_pick_t (ev_hit hN rfl) (ev_hit hN rfl) ?_
           refine reg_nil (hK32 _ _ (wp_cond_false (ev_hit hN rfl) (wp_skip (hK8 _ _ ?_))))
           exact hJ7 _ _ _ hN hd ⟨(l.getD 0 0), 3, (sl_base hN rfl s3), (sl_hit hN rfl), (sl_hit hN rfl), (by omega), (by unfold takesX; (repeat' split) <;> first | rfl | omega), (by unfold givesX; (repeat' split) <;> first | rfl | omega), hb, (by omega), hC, hK, hL, hB5⟩
         ·
          refine op_move (ev_hit hN rfl) (g_false (j := 2) (dj := 48) (b := true) rfl rfl rfl (ev_hit hN rfl) rfl rfl (g_false (j := 2) (dj := 48) (b := true) rfl rfl rfl (ev_hit hN rfl) rfl rfl (op_pick_f (ev_hit hN rfl) rfl ?_)))
          refine reg_nil (hK32 _ _ (wp_cond_false (ev_hit hN rfl) (wp_skip (hK8 _ _ ?_))))
          exact hJ7 _ _ _ hN hd ⟨(l.getD 0 0), 3, (sl_base hN rfl s3), (sl_hit hN rfl), (sl_hit hN rfl), (by omega), (by unfold takesX; (repeat' split) <;> first | rfl | omega), (by unfold givesX; (repeat' split) <;> first | rfl | omega), hb, (by omega), hC, hK, hL, hB5⟩
        ·
         refine op_assign (ev_hit hN rfl) (reg_nil (hK27 _ _ (wp_cond_false (ev_hit hN rfl) (seq_any fun K34 hK34 => ?_))))
         refine one_reg (op_eql (ev_hit hN rfl) rfl (fun c39 => ?_) (fun c39 => ?_))
         ·
          refine op_assign (ev_hit hN rfl) (reg_nil (hK34 _ _ ?_))
          refine wp_cond_true (ev_hit hN rfl) (wp_skip (hK19 _ _ (wp_cond_true (ev_hit hN rfl) (seq_any fun K35 hK35 => one_reg (op_move (ev_base hN rfl s3) ?_)))))
          have hl0 : 0 < l.length := by rw [argsN_two (by omega)] at hl; omega
          refine op_index_rd slt23 (ev_hit hN rfl) hL rfl (by omega) (by omega) ?_
          intro b36 o37 h0b36 h1b36 hc38
          refine op_load1 (v := (Value.int .i64 (l.getD 0 0))) one3 (ev_hit hN rfl) (by have := hc38 0 (Value.int .i64 (l.getD 0 0)) (by decide) (el_i64 (i := 0) (by omega) (by omega)); simpa using this) (op_assign (ev_hit hN rfl) (op_assign rfl (reg_nil (hK35 _ _ (seq_any fun K39 hK39 => ?_)))))
          refine one_reg (op_move (ev_hit hN rfl) (op_neq (ev_hit hN rfl) rfl (fun c47 => ?_) (fun c47 => ?_)))
          ·
           refine op_move (ev_hit hN rfl) (g_true (j := 2) (dj := 48) (b := true) rfl rfl rfl (ev_hit hN rfl) (op_move (ev_hit hN rfl) (g_true (j := 2) (dj := 48) (b := true) rfl rfl rfl (ev_hit hN rfl) (op_neq (ev_hit hN rfl) rfl (fun c50 => ?_) (fun c50 => ?_)))))
           ·
            refine op_pick_t (ev_hit hN rfl) (ev_hit hN rfl) ?_
            refine reg_nil (hK39 _ _ (wp_cond_true (ev_hit hN rfl) ?_))
            refine seq_any fun K40 hK40 => one_reg (op_assign rfl (op_assign rfl (reg_nil (hK40 _ _ (wp_ret (blk_ret (then_ret ( ?_))))))))
            refine ret2 rfl hd (ev_hit hN rfl) (ev_hit hN rfl) ⟨_, rfl, ?_⟩
            have e9 : ofX C K e.op e.vk e.tb e.nm l = (0, 11) := by exact ofX_bad (by omega)
            rw [e9]; exact ⟨hb, rfl⟩
           ·
            refine op_pick_t (ev_hit hN rfl) (ev_hit hN rfl) ?_
            refine reg_nil (hK39 _ _ (wp_cond_false (ev_hit hN rfl) (wp_skip (hK8 _ _ ?_))))
            exact hJ7 _ _ _ hN hd ⟨(l.getD 0 0), 3, (sl_base hN rfl s3), (sl_hit hN rfl), (sl_hit hN rfl), (by omega), (by unfold takesX; (repeat' split) <;> first | rfl | omega), (by unfold givesX; (repeat' split) <;> first | rfl | omega), hb, (by omega), hC, hK, hL, hB5⟩
          ·
           refine op_move (ev_hit hN rfl) (g_false (j := 2) (dj := 48) (b := true) rfl rfl rfl (ev_hit hN rfl) rfl rfl (g_false (j := 2) (dj := 48) (b := true) rfl rfl rfl (ev_hit hN rfl) rfl rfl (op_pick_f (ev_hit hN rfl) rfl ?_)))
           refine reg_nil (hK39 _ _ (wp_cond_false (ev_hit hN rfl) (wp_skip (hK8 _ _ ?_))))
           exact hJ7 _ _ _ hN hd ⟨(l.getD 0 0), 3, (sl_base hN rfl s3), (sl_hit hN rfl), (sl_hit hN rfl), (by omega), (by unfold takesX; (repeat' split) <;> first | rfl | omega), (by unfold givesX; (repeat' split) <;> first | rfl | omega), hb, (by omega), hC, hK, hL, hB5⟩
         ·
          refine op_assign (ev_hit hN rfl) (reg_nil (hK34 _ _ (wp_cond_false (ev_hit hN rfl) (seq_any fun K41 hK41 => ?_))))
          refine one_reg (op_eql (ev_hit hN rfl) rfl (fun c40 => ?_) (fun c40 => ?_))
          ·
           refine op_assign (ev_hit hN rfl) (reg_nil (hK41 _ _ ?_))
           refine wp_cond_true (ev_hit hN rfl) (wp_skip (hK19 _ _ (wp_cond_true (ev_hit hN rfl) (seq_any fun K42 hK42 => one_reg (op_move (ev_base hN rfl s3) ?_)))))
           have hl0 : 0 < l.length := by rw [argsN_two (by omega)] at hl; omega
           refine op_index_rd slt23 (ev_hit hN rfl) hL rfl (by omega) (by omega) ?_
           intro b43 o44 h0b43 h1b43 hc45
           refine op_load1 (v := (Value.int .i64 (l.getD 0 0))) one3 (ev_hit hN rfl) (by have := hc45 0 (Value.int .i64 (l.getD 0 0)) (by decide) (el_i64 (i := 0) (by omega) (by omega)); simpa using this) (op_assign (ev_hit hN rfl) (op_assign rfl (reg_nil (hK42 _ _ (seq_any fun K46 hK46 => ?_)))))
           refine one_reg (op_move (ev_hit hN rfl) (op_neq (ev_hit hN rfl) rfl (fun c47 => ?_) (fun c47 => ?_)))
           ·
            refine op_move (ev_hit hN rfl) (g_true (j := 2) (dj := 48) (b := true) rfl rfl rfl (ev_hit hN rfl) (op_move (ev_hit hN rfl) (g_true (j := 2) (dj := 48) (b := true) rfl rfl rfl (ev_hit hN rfl) (op_neq (ev_hit hN rfl) rfl (fun c50 => ?_) (fun c50 => ?_)))))
            ·
             refine op_pick_t (ev_hit hN rfl) (ev_hit hN rfl) ?_
             refine reg_nil (hK46 _ _ (wp_cond_true (ev_hit hN rfl) ?_))
             refine seq_any fun K47 hK47 => one_reg (op_assign rfl (op_assign rfl (reg_nil (hK47 _ _ (wp_ret (blk_ret (then_ret ( ?_))))))))
             refine ret2 rfl hd (ev_hit hN rfl) (ev_hit hN rfl) ⟨_, rfl, ?_⟩
             have e9 : ofX C K e.op e.vk e.tb e.nm l = (0, 11) := by exact ofX_bad (by omega)
             rw [e9]; exact ⟨hb, rfl⟩
            ·
             refine op_pick_t (ev_hit hN rfl) (ev_hit hN rfl) ?_
             refine reg_nil (hK46 _ _ (wp_cond_false (ev_hit hN rfl) (wp_skip (hK8 _ _ ?_))))
             exact hJ7 _ _ _ hN hd ⟨(l.getD 0 0), 3, (sl_base hN rfl s3), (sl_hit hN rfl), (sl_hit hN rfl), (by omega), (by unfold takesX; (repeat' split) <;> first | rfl | omega), (by unfold givesX; (repeat' split) <;> first | rfl | omega), hb, (by omega), hC, hK, hL, hB5⟩
           ·
            refine op_move (ev_hit hN rfl) (g_false (j := 2) (dj := 48) (b := true) rfl rfl rfl (ev_hit hN rfl) rfl rfl (g_false (j := 2) (dj := 48) (b := true) rfl rfl rfl (ev_hit hN rfl) rfl rfl (op_pick_f (ev_hit hN rfl) rfl ?_)))
            refine reg_nil (hK46 _ _ (wp_cond_false (ev_hit hN rfl) (wp_skip (hK8 _ _ ?_))))
            exact hJ7 _ _ _ hN hd ⟨(l.getD 0 0), 3, (sl_base hN rfl s3), (sl_hit hN rfl), (sl_hit hN rfl), (by omega), (by unfold takesX; (repeat' split) <;> first | rfl | omega), (by unfold givesX; (repeat' split) <;> first | rfl | omega), hb, (by omega), hC, hK, hL, hB5⟩
          ·
           refine op_assign (ev_hit hN rfl) (reg_nil (hK41 _ _ (wp_cond_false (ev_hit hN rfl) (seq_any fun K48 hK48 => ?_))))
           refine one_reg (op_eql (ev_hit hN rfl) rfl (fun c41 => ?_) (fun c41 => ?_))
           ·
            refine op_assign (ev_hit hN rfl) (reg_nil (hK48 _ _ ?_))
            refine wp_cond_true (ev_hit hN rfl) (wp_skip (hK19 _ _ (wp_cond_true (ev_hit hN rfl) (seq_any fun K49 hK49 => one_reg (op_move (ev_base hN rfl s3) ?_)))))
            have hl0 : 0 < l.length := by rw [argsN_two (by omega)] at hl; omega
            refine op_index_rd slt23 (ev_hit hN rfl) hL rfl (by omega) (by omega) ?_
            intro b50 o51 h0b50 h1b50 hc52
            refine op_load1 (v := (Value.int .i64 (l.getD 0 0))) one3 (ev_hit hN rfl) (by have := hc52 0 (Value.int .i64 (l.getD 0 0)) (by decide) (el_i64 (i := 0) (by omega) (by omega)); simpa using this) (op_assign (ev_hit hN rfl) (op_assign rfl (reg_nil (hK49 _ _ (seq_any fun K53 hK53 => ?_)))))
            refine one_reg (op_move (ev_hit hN rfl) (op_neq (ev_hit hN rfl) rfl (fun c47 => ?_) (fun c47 => ?_)))
            ·
             refine op_move (ev_hit hN rfl) (g_true (j := 2) (dj := 48) (b := true) rfl rfl rfl (ev_hit hN rfl) (op_move (ev_hit hN rfl) (g_true (j := 2) (dj := 48) (b := true) rfl rfl rfl (ev_hit hN rfl) (op_neq (ev_hit hN rfl) rfl (fun c50 => ?_) (fun c50 => ?_)))))
             ·
              refine op_pick_t (ev_hit hN rfl) (ev_hit hN rfl) ?_
              refine reg_nil (hK53 _ _ (wp_cond_true (ev_hit hN rfl) ?_))
              refine seq_any fun K54 hK54 => one_reg (op_assign rfl (op_assign rfl (reg_nil (hK54 _ _ (wp_ret (blk_ret (then_ret ( ?_))))))))
              refine ret2 rfl hd (ev_hit hN rfl) (ev_hit hN rfl) ⟨_, rfl, ?_⟩
              have e9 : ofX C K e.op e.vk e.tb e.nm l = (0, 11) := by exact ofX_bad (by omega)
              rw [e9]; exact ⟨hb, rfl⟩
             ·
              refine op_pick_t (ev_hit hN rfl) (ev_hit hN rfl) ?_
              refine reg_nil (hK53 _ _ (wp_cond_false (ev_hit hN rfl) (wp_skip (hK8 _ _ ?_))))
              exact hJ7 _ _ _ hN hd ⟨(l.getD 0 0), 3, (sl_base hN rfl s3), (sl_hit hN rfl), (sl_hit hN rfl), (by omega), (by unfold takesX; (repeat' split) <;> first | rfl | omega), (by unfold givesX; (repeat' split) <;> first | rfl | omega), hb, (by omega), hC, hK, hL, hB5⟩
            ·
             refine op_move (ev_hit hN rfl) (g_false (j := 2) (dj := 48) (b := true) rfl rfl rfl (ev_hit hN rfl) rfl rfl (g_false (j := 2) (dj := 48) (b := true) rfl rfl rfl (ev_hit hN rfl) rfl rfl (op_pick_f (ev_hit hN rfl) rfl ?_)))
             refine reg_nil (hK53 _ _ (wp_cond_false (ev_hit hN rfl) (wp_skip (hK8 _ _ ?_))))
             exact hJ7 _ _ _ hN hd ⟨(l.getD 0 0), 3, (sl_base hN rfl s3), (sl_hit hN rfl), (sl_hit hN rfl), (by omega), (by unfold takesX; (repeat' split) <;> first | rfl | omega), (by unfold givesX; (repeat' split) <;> first | rfl | omega), hb, (by omega), hC, hK, hL, hB5⟩
           ·
            refine op_assign (ev_hit hN rfl) (reg_nil (hK48 _ _ (wp_cond_false (ev_hit hN rfl) (one_reg (op_eql (ev_hit hN rfl) rfl (fun c42 => ?_) (fun c42 => ?_))))))
            ·
             refine op_assign (ev_hit hN rfl) (reg_nil (hK19 _ _ (wp_cond_true (ev_hit hN rfl) (seq_any fun K55 hK55 => one_reg (op_move (ev_base hN rfl s3) ?_)))))
             have hl0 : 0 < l.length := by rw [argsN_two (by omega)] at hl; omega
             refine op_index_rd slt23 (ev_hit hN rfl) hL rfl (by omega) (by omega) ?_
             intro b56 o57 h0b56 h1b56 hc58
             refine op_load1 (v := (Value.int .i64 (l.getD 0 0))) one3 (ev_hit hN rfl) (by have := hc58 0 (Value.int .i64 (l.getD 0 0)) (by decide) (el_i64 (i := 0) (by omega) (by omega)); simpa using this) (op_assign (ev_hit hN rfl) (op_assign rfl (reg_nil (hK55 _ _ (seq_any fun K59 hK59 => ?_)))))
             refine one_reg (op_move (ev_hit hN rfl) (op_neq (ev_hit hN rfl) rfl (fun c47 => ?_) (fun c47 => ?_)))
             ·
              refine op_move (ev_hit hN rfl) (g_true (j := 2) (dj := 48) (b := true) rfl rfl rfl (ev_hit hN rfl) (op_move (ev_hit hN rfl) (g_true (j := 2) (dj := 48) (b := true) rfl rfl rfl (ev_hit hN rfl) (op_neq (ev_hit hN rfl) rfl (fun c50 => ?_) (fun c50 => ?_)))))
              ·
               refine op_pick_t (ev_hit hN rfl) (ev_hit hN rfl) ?_
               refine reg_nil (hK59 _ _ (wp_cond_true (ev_hit hN rfl) ?_))
               refine seq_any fun K60 hK60 => one_reg (op_assign rfl (op_assign rfl (reg_nil (hK60 _ _ (wp_ret (blk_ret (then_ret ( ?_))))))))
               refine ret2 rfl hd (ev_hit hN rfl) (ev_hit hN rfl) ⟨_, rfl, ?_⟩
               have e9 : ofX C K e.op e.vk e.tb e.nm l = (0, 11) := by exact ofX_bad (by omega)
               rw [e9]; exact ⟨hb, rfl⟩
              ·
               refine op_pick_t (ev_hit hN rfl) (ev_hit hN rfl) ?_
               refine reg_nil (hK59 _ _ (wp_cond_false (ev_hit hN rfl) (wp_skip (hK8 _ _ ?_))))
               exact hJ7 _ _ _ hN hd ⟨(l.getD 0 0), 3, (sl_base hN rfl s3), (sl_hit hN rfl), (sl_hit hN rfl), (by omega), (by unfold takesX; (repeat' split) <;> first | rfl | omega), (by unfold givesX; (repeat' split) <;> first | rfl | omega), hb, (by omega), hC, hK, hL, hB5⟩
             ·
              refine op_move (ev_hit hN rfl) (g_false (j := 2) (dj := 48) (b := true) rfl rfl rfl (ev_hit hN rfl) rfl rfl (g_false (j := 2) (dj := 48) (b := true) rfl rfl rfl (ev_hit hN rfl) rfl rfl (op_pick_f (ev_hit hN rfl) rfl ?_)))
              refine reg_nil (hK59 _ _ (wp_cond_false (ev_hit hN rfl) (wp_skip (hK8 _ _ ?_))))
              exact hJ7 _ _ _ hN hd ⟨(l.getD 0 0), 3, (sl_base hN rfl s3), (sl_hit hN rfl), (sl_hit hN rfl), (by omega), (by unfold takesX; (repeat' split) <;> first | rfl | omega), (by unfold givesX; (repeat' split) <;> first | rfl | omega), hb, (by omega), hC, hK, hL, hB5⟩
            ·
             refine op_assign (ev_hit hN rfl) (reg_nil (hK19 _ _ (wp_cond_false (ev_hit hN rfl) (wp_skip (hK8 _ _ ?_)))))
             exact hJ7 _ _ _ hN hd ⟨1, 1, (sl_base hN rfl s3), (sl_hit hN rfl), (sl_hit hN rfl), (by omega), (by unfold takesX; (repeat' split) <;> first | rfl | omega), (by unfold givesX; (repeat' split) <;> first | rfl | omega), hb, (by omega), hC, hK, hL, hB5⟩
 ·
  rintro a7 w7 hN7 hd7 ⟨mu, co, s7_3, s7_10, s7_11, hne, hmu, hco, hb, zl_w7, hC, hK, hL, hB5⟩
  have z_w7 := hb.size
  refine seq_any fun K61 hK61 => seq_any fun K62 hK62 => one_reg (op_move (ev_base hN7 rfl s7_3) (op_len_rd Try.underlying23 (ev_hit hN7 rfl) hL ?_))
  refine op_move rfl (reg_nil (hK62 _ _ (wp_block ?_)))
  refine loop_m (fun mz_ az_ w' => ∃ (i : Nat), mz_ = l.length - i ∧ (az_.tmps.getD 10 undef = (Value.int .i64 mu)) ∧ (az_.tmps.getD 11 undef = (Value.int .i64 co)) ∧ (az_.tmps.getD 52 undef = vl) ∧ (az_.tmps.getD 53 undef = (Value.int .i64 ((l.length : Nat) : Int))) ∧ (az_.tmps.getD 54 undef = (Value.int .i64 ((i : Nat) : Int))) ∧ (i ≤ l.length) ∧ (∀ j, j < i → l.getD j 0 = mu) ∧ w7 = w') _ hN7 hd7 ⟨0, rfl, (sl_base hN7 rfl s7_10), (sl_base hN7 rfl s7_11), (sl_hit hN7 rfl), (sl_hit hN7 rfl), (sl_hit hN7 rfl), Nat.zero_le _, (fun _ h => absurd h (Nat.not_lt_zero _)), rfl⟩ ?_
  rintro _ a63 _ hN63 hd63 ⟨i, rfl, s63_10, s63_11, s63_52, s63_53, s63_54, hi, hall, rfl⟩
  refine seq_any fun K64 hK64 => ?_
  refine one_reg (op_lss (ev_base hN63 rfl s63_54) (ev_base hN63 rfl s63_53) (fun c55 => ?_) (fun c55 => ?_))
  ·
   refine reg_nil ?_
   refine hK64 _ _ (seq_any fun K65 hK65 => wp_cond_true (ev_hit hN63 rfl) (wp_skip (hK65 _ _ (seq_any fun K66 hK66 => wp_block ?_))))
   refine seq_any fun K67 hK67 => one_reg (op_index_rd slt23 (ev_base hN63 rfl s63_52) hL (ev_base hN63 rfl s63_54) (by omega) (by omega) ?_)
   intro b68 o69 h0b68 h1b68 hc70
   refine op_load1 (v := (Value.int .i64 (l.getD i 0))) one3 (ev_hit hN63 rfl) (by have := hc70 0 (Value.int .i64 (l.getD i 0)) (by decide) (el_i64 (i := i) (by omega) (by omega)); simpa using this) (op_assign (ev_hit hN63 rfl) (reg_nil (hK67 _ _ (seq_any fun K71 hK71 => ?_))))
   refine one_reg (op_move (ev_hit hN63 rfl) (op_move (ev_base hN63 rfl s63_10) (op_neq (ev_hit hN63 rfl) (ev_hit hN63 rfl) (fun c60 => ?_) (fun c60 => ?_))))
   ·
    refine reg_nil (hK71 _ _ (wp_cond_true (ev_hit hN63 rfl) ?_))
    refine seq_any fun K72 hK72 => one_reg (op_assign rfl (op_assign rfl (reg_nil (hK72 _ _ (wp_ret (blk_ret (then_ret (then_ret (blk_ret (then_ret ( ?_)))))))))))
    refine ret2 rfl hd63 (ev_hit hN63 rfl) (ev_hit hN63 rfl) ⟨_, rfl, ?_⟩
    have e9 : ofX C K e.op e.vk e.tb e.nm l = (0, 11) := by exact ofX_no (i := i) hne.1 hne.2.1 hne.2.2 (by omega) (hmu ▸ c60)
    rw [e9]; exact ⟨hb, rfl⟩
   ·
    refine reg_nil (hK71 _ _ (wp_cond_false (ev_hit hN63 rfl) (wp_skip (hK66 _ _ (one_reg (op_add (ev_base hN63 rfl s63_54) rfl (add64 (by omega)) ?_))))))
    refine op_move (ev_hit hN63 rfl) (reg_nil ?_)
    -- round 55T 60F
    exact loop_next _ hN63 hd63 ⟨(i + 1), rfl, (sl_base hN63 rfl s63_10), (sl_base hN63 rfl s63_11), (sl_base hN63 rfl s63_52), (sl_base hN63 rfl s63_53), (sl_hit hN63 rfl).trans (congrArg (Value.int .i64) (by omega)), (by omega), (all_next hall c60), rfl⟩ (by omega)
  ·
   refine reg_nil (hK64 _ _ (seq_any fun K73 hK73 => wp_cond_false (ev_hit hN63 rfl) (wp_exit (then_exit (then_exit (blk_hit ?_))))))
   refine hK61 _ _ (seq_any fun K74 hK74 => ?_)
   refine one_reg (op_move (ev_base hN63 rfl s63_11) (op_assign (ev_hit hN63 rfl) (op_assign rfl (reg_nil (hK74 _ _ (wp_ret ?_))))))
   refine ret2 rfl hd63 (ev_hit hN63 rfl) (ev_hit hN63 rfl) ⟨_, rfl, ?_⟩
   have e9 : ofX C K e.op e.vk e.tb e.nm l = (co, 0) := by rw [hco]; exact ofX_ok hne.1 hne.2.1 hne.2.2 fun j hj => hmu ▸ hall j (by omega)
   rw [e9]; exact ⟨hb, rfl⟩
def KindP (e : XE) : Prop := ∀ ⦃C : List PItm⦄ ⦃K : List Int⦄ ⦃vc vk : Value⦄ ⦃w : World⦄, C.length ≤ 9223372036854775807 → K.length ≤ 9223372036854775807 → RdC w 0 w.heap.size 3 vc C.length (C.flatMap cellsI) → RdC w 0 w.heap.size 1 vk K.length (K.map (Value.int .i64)) → XRd w w.heap.size e →
  Ret Try.prog 14 #[vc, vk, (Value.agg #[(Value.int .i64 e.op), (Value.int .i64 e.vk), (Value.int .i64 e.vi), (Value.string (bs e.vt)), (Value.string (bs e.tb)), (Value.string (bs e.nm)), e.av])] w (fun v' w' => Below w.heap.size w w' ∧ v' = .tuple #[.int .i64 (kindX C K e).1, .int .i64 (kindX C K e).2])

theorem Kind1_in {C : List PItm} {K : List Int} {vc vk lv : Value} {a : XE} {L : List Int} {p3 p4 p8 B : Nat} {w : World} (ih : KindP a) (hz0 : C.length ≤ 9223372036854775807) (hz1 : K.length ≤ 9223372036854775807) (hB : B ≤ w.heap.size) (hC : RdC w 0 B 3 vc C.length (C.flatMap cellsI)) (hK : RdC w 0 B 1 vk K.length (K.map (Value.int .i64))) (h3 : Bx w p3 22 [vc]) (h4 : Bx w p4 23 [vk]) (h1 : B ≤ p8) (h8 : Bx w p8 23 [lv]) (hne : p4 ≠ p8) (O : Own w B 3 1 lv L.length (L.map (Value.int .i64))) (hL : L.length ≤ 1000) (ha : XRd w B a) : Ret Try.prog 32 #[(Value.agg #[(Value.int .i64 a.op), (Value.int .i64 a.vk), (Value.int .i64 a.vi), (Value.string (bs a.vt)), (Value.string (bs a.tb)), (Value.string (bs a.nm)), a.av]), (ptr p3 0), (ptr p4 0), (ptr p8 0)] w (fun v' w' => Gr w w' (fun k => k = p8 ∨ Bl lv k) ∧ v' = .int .i64 (kindX C K a).2 ∧ ∃ lv', Bx w' p8 23 [lv'] ∧ Own w' B 3 1 lv' (L ++ [(kindX C K a).1]).length ((L ++ [(kindX C K a).1]).map (Value.int .i64)) ∧ (lv'.ownBlock = lv.ownBlock ∨ ∀ k, lv'.ownBlock = some k → w.heap.size ≤ k)) := by
 have hi_p3 := h3.lt
 have hi_p4 := h4.lt
 have hi_p8 := h8.lt
 have hb := Gr.refl w (fun k => k = p8 ∨ Bl lv k)
 refine enter (N := 20) Try.func32 rfl rfl (by simp) fun a0 hN hd hA => ?_
 have s0 : a0.tmps.getD 0 undef = (Value.agg #[(Value.int .i64 a.op), (Value.int .i64 a.vk), (Value.int .i64 a.vi), (Value.string (bs a.vt)), (Value.string (bs a.tb)), (Value.string (bs a.nm)), a.av]) := hA 0 (by simp)
 have s1 : a0.tmps.getD 1 undef = (ptr p3 0) := hA 1 (by simp)
 have s2 : a0.tmps.getD 2 undef = (ptr p4 0) := hA 2 (by simp)
 have s3 : a0.tmps.getD 3 undef = (ptr p8 0) := hA 3 (by simp)
 clear hA
 refine seq_any fun K1 hK1 => one_reg (op_box (cs := [(Value.int .i64 a.op), (Value.int .i64 a.vk), (Value.int .i64 a.vi), (Value.string (bs a.vt)), (Value.string (bs a.tb)), (Value.string (bs a.nm)), a.av]) (ev_base hN rfl s0) rfl ?_)
 intro w2 b3 lo_b3 hi_b3 hB5 E4
 have z_w2 := E4.size
 have hC := hC.keep0 E4
 have hK := hK.keep0 E4
 have h3 := h3.keep0 E4
 have h4 := h4.keep0 E4
 have h8 := h8.keep0 E4
 have O := O.keep0 E4
 have ha := ha.keep0 E4
 have hb := hb.step0 E4
 refine op_assign rfl ?_
 refine reg_nil (hK1 _ _ (seq_any fun K6 hK6 => one_reg (op_load1 (v := vc) one22 (ev_base hN rfl s1) (h3.cell rfl) (op_load1 (v := vk) one23 (ev_base hN rfl s2) (h4.cell rfl) (op_loadA (cs := [(Value.int .i64 a.op), (Value.int .i64 a.vk), (Value.int .i64 a.vi), (Value.string (bs a.vt)), (Value.string (bs a.tb)), (Value.string (bs a.nm)), a.av]) agg28 rfl (ev_hit hN rfl) (fun j u hu => by rw [Nat.zero_add]; exact hB5.cell hu) ?_)))))
 refine op_fn (vs := [vc, vk, (Value.agg #[(Value.int .i64 a.op), (Value.int .i64 a.vk), (Value.int .i64 a.vi), (Value.string (bs a.vt)), (Value.string (bs a.tb)), (Value.string (bs a.nm)), a.av])]) ok14 ⟨(ev_hit hN rfl), ⟨(ev_hit hN rfl), ⟨(ev_hit hN rfl), trivial⟩⟩⟩ (ih (by first | assumption | omega | (simp only [List.length_append, List.length_cons, List.length_nil, List.length_drop, List.length_take]; omega) | (dsimp only; omega) | decide | (simp [keyV, be8_len]; done)) (by first | assumption | omega | (simp only [List.length_append, List.length_cons, List.length_nil, List.length_drop, List.length_take]; omega) | (dsimp only; omega) | decide | (simp [keyV, be8_len]; done)) (hC.mono (Nat.zero_le _) (by omega)) (hK.mono (Nat.zero_le _) (by omega)) (ha.mono (by omega))) ?_
 rintro _ w7 ⟨E8, rfl⟩
 have E8 := grown_of_below E8
 have z_w7 := E8.size
 have h8 := h8.keep0 E8
 have O := O.keep0 E8
 have hb := hb.step0 E8
 refine op_move (ev_hit hN rfl) (op_extract (ev_hit hN rfl) rfl ?_)
 refine op_extract (ev_hit hN rfl) rfl ?_
 refine op_assign (ev_hit hN rfl) (op_assign (ev_hit hN rfl) ?_)
 refine reg_nil (hK6 _ _ (seq_any fun K9 hK9 => one_reg (op_load1 (v := lv) one23 (ev_base hN rfl s3) (h8.cell rfl) (op_move (ev_hit hN rfl) (op_bslice (e := 3) (pv := [(0, (Value.int .i64 (kindX C K a).1))]) (cs := [(Value.int .i64 (kindX C K a).1)]) ⟨rfl, (ev_hit hN rfl), trivial⟩ (by kernel_rfl) ?_)))))
 intro w10 b11 lo_b11 hi_b11 hB13 E12
 have z_w10 := E12.size
 have h8 := h8.keep0 E12
 have O := O.keep0 E12
 have hb := hb.step0 E12
 have hP19 := O
 refine op_append slt23 (ev_hit hN rfl) hP19 (ev_hit hN rfl) (Src.ofRd Try.underlying23 (by decide) (RdC.ofBx (sz := 1) (n := 1) hB13 rfl (by decide)) (by simp [Value.oneCell', u8v])) (by unfold maxLen; omega) (by omega) (Nat.le_trans (by assumption) hb.size) ?_
 intro v14 w15 hO17 E16 hm18
 have z_w15 := E16.size
 have h8 := h8.keepO hP19 E16 (by decide)
 have hb := hb.stepL E16 (fun k _ h => .inr h)
 have hO17 : Own w15 B 3 1 v14 (L.length + 1) (((L ++ [(kindX C K a).1])).map (Value.int .i64)) := by simpa [u8v, u16v, sv] using hO17
 have h8_old := h8
 refine op_store (vs := [v14]) (cs' := [v14]) size23 (ev_base hN rfl s3) (ev_hit hN rfl) hO17.cl rfl (by simp only [List.all_cons, List.all_nil, Bool.true_and, Bool.and_true, hO17.one]; try rfl) h8 (Nat.le_of_ble_eq_true rfl) rfl ?_
 intro w22 h8 E23
 have z_w22 := E23.size
 have hO17 := hO17.keepX h8_old E23 (by decide)
 have hb := hb.stepB E23 (.inl rfl)
 refine reg_nil (hK9 _ _ ?_)
 refine seq_any fun K24 hK24 => one_reg (op_move (ev_hit hN rfl) (op_assign (ev_hit hN rfl) (reg_nil (hK24 _ _ (wp_ret ?_)))))
 refine ret1 rfl hd (ev_hit hN rfl) ⟨_, rfl, ?_⟩
 exact ⟨hb, rfl, v14, h8, hO17.cast (by simp) (by simp), hm18.imp id fun h k hk => Nat.le_trans (by omega) (h k hk)⟩

theorem Kind1_ret {C : List PItm} {K : List Int} {vc vk : Value} {a : XE} {L : List Int} {p3 p4 p8 B : Nat} {F : Nat → Prop} {w : World} (ih : KindP a) (hz0 : C.length ≤ 9223372036854775807) (hz1 : K.length ≤ 9223372036854775807) (hB : B ≤ w.heap.size) (hC : RdC w 0 B 3 vc C.length (C.flatMap cellsI)) (hK : RdC w 0 B 1 vk K.length (K.map (Value.int .i64))) (h3 : Bx w p3 22 [vc]) (h4 : Bx w p4 23 [vk]) (d4 : ¬ F p4) (hA : AccI w B p8 L F) (hL : L.length ≤ 1000) (ha : XRd w B a) :
    Ret Try.prog 32 #[(Value.agg #[(Value.int .i64 a.op), (Value.int .i64 a.vk), (Value.int .i64 a.vi), (Value.string (bs a.vt)), (Value.string (bs a.tb)), (Value.string (bs a.nm)), a.av]), ptr p3 0, ptr p4 0, ptr p8 0] w (fun v' w' => Gr w w' F ∧ v' = .int .i64 (kindX C K a).2 ∧ ∃ F', AccI w' B p8 (L ++ [(kindX C K a).1]) F' ∧ NewF w.heap.size F F') := by
  obtain ⟨h1, lv, hx, O, hF⟩ := hA
  refine (Kind1_in ih hz0 hz1 hB hC hK h3 h4 h1 hx (fun e => d4 (e ▸ (hF _).2 (.inl rfl))) O hL ha).mono fun v' w' h => ?_
  obtain ⟨E, hv, lv', hx', O', hm⟩ := h
  refine ⟨E.mono fun k _ hk => (hF k).2 hk, hv, _, ⟨h1, lv', hx', O', fun _ => Iff.rfl⟩, fun k hk => ?_⟩
  rcases hk with hk | hk
  · exact .inl ((hF k).2 (.inl hk))
  · rcases hm with hm | hm
    · exact .inl ((hF k).2 (.inr (hm.symm.trans hk)))
    · exact .inr (hm k hk)

theorem FoldX {E : List XE} {v : Value} {R : XE → Int} {w : World} (hX : XsRd w w.heap.size v E) {g : Nat} {fs cs : List Value} (hokg : callOk Try.prog g = true) (hf : ∀ i, i < E.length → ∀ w1, Below w.heap.size w w1 → Ret Try.prog g (fs ++ [(Value.agg #[(Value.int .i64 (E.getD i default).op), (Value.int .i64 (E.getD i default).vk), (Value.int .i64 (E.getD i default).vi), (Value.string (bs (E.getD i default).vt)), (Value.string (bs (E.getD i default).tb)), (Value.string (bs (E.getD i default).nm)), (E.getD i default).av])] ++ cs).toArray w1 (fun v' w' => Below w1.heap.size w1 w' ∧ v' = .int .i64 (R (E.getD i default)))) : Ret Try.prog 31 #[v, (Value.func (.func g) fs.toArray cs.toArray)] w (fun v' w' => Below w.heap.size w w' ∧ v' = .int .i64 (firstE (E.map R))) := by
 have hl := hX.1
 have hlm := rd_len hl
 have hb := Below.refl w.heap.size w
 refine enter (N := 21) Try.func31 rfl rfl (by simp) fun a0 hN hd hA => ?_
 have s0 : a0.tmps.getD 0 undef = v := hA 0 (by simp)
 have s1 : a0.tmps.getD 1 undef = (Value.func (.func g) fs.toArray cs.toArray) := hA 1 (by simp)
 clear hA
 refine seq_any fun K1 hK1 => one_reg (op_assign rfl ?_)
 refine reg_nil (hK1 _ _ (seq_any fun K2 hK2 => seq_any fun K3 hK3 => one_reg (op_move (ev_base hN rfl s0) (op_len_rd Try.underlying26 (ev_hit hN rfl) hl ?_))))
 refine op_move rfl (reg_nil (hK3 _ _ (wp_block ?_)))
 refine loop_m (fun mz_ az_ w' => ∃ (i : Nat), mz_ = E.length - i ∧ (az_.tmps.getD 1 undef = (Value.func (.func g) fs.toArray cs.toArray)) ∧ (az_.tmps.getD 8 undef = v) ∧ (az_.tmps.getD 9 undef = (Value.int .i64 ((E.length : Nat) : Int))) ∧ (az_.tmps.getD 10 undef = (Value.int .i64 ((i : Nat) : Int))) ∧ (i ≤ E.length) ∧ (∀ j, j < i → R (E.getD j default) = 0) ∧ (Below w.heap.size w w') ∧ (w.heap.size ≤ w'.heap.size) ∧ (RdC w' 0 w.heap.size 7 v E.length (E.flatMap cellsX)) ∧ (XsRd w' w.heap.size v E)) _ hN hd ⟨0, rfl, (sl_base hN rfl s1), (sl_hit hN rfl), (sl_hit hN rfl), (sl_hit hN rfl), (Nat.zero_le _), (fun _ h => absurd h (Nat.not_lt_zero _)), hb, (Nat.le_refl _), hl, hX⟩ ?_
 rintro _ a4 w4 hN4 hd4 ⟨i, rfl, s4_1, s4_8, s4_9, s4_10, hi, hall, hb, zl_w4, hl, hX⟩
 have z_w4 := hb.size
 refine seq_any fun K5 hK5 => ?_
 refine one_reg (op_lss (ev_base hN4 rfl s4_10) (ev_base hN4 rfl s4_9) (fun c11 => ?_) (fun c11 => ?_))
 ·
  refine reg_nil ?_
  refine hK5 _ _ (seq_any fun K6 hK6 => wp_cond_true (ev_hit hN4 rfl) (wp_skip (hK6 _ _ (seq_any fun K7 hK7 => wp_block ?_))))
  refine seq_any fun K8 hK8 => one_reg (op_index_rd slt26 (ev_base hN4 rfl s4_8) hl (ev_base hN4 rfl s4_10) (by omega) (by omega) ?_)
  intro b9 o10 h0b9 h1b9 hc11
  refine op_loadA (cs := [(Value.int .i64 (E.getD i default).op), (Value.int .i64 (E.getD i default).vk), (Value.int .i64 (E.getD i default).vi), (Value.string (bs (E.getD i default).vt)), (Value.string (bs (E.getD i default).tb)), (Value.string (bs (E.getD i default).nm)), (E.getD i default).av]) agg28 rfl (ev_hit hN4 rfl) (fun j u hu => hc11 j u (by have := (List.getElem?_eq_some_iff.1 hu).1; simpa using this) ((el_xe (i := i) (by omega) (by omega)) j u hu)) ?_
  refine op_alloc (cs := [(Value.int .i64 0), (Value.int .i64 0), (Value.int .i64 0), (Value.string (bs [])), (Value.string (bs [])), (Value.string (bs [])), (Value.slice none 0 0)]) zero28 rfl ?_
  intro w12 b13 lo_b13 hi_b13 hB15 E14
  have z_w12 := E14.size
  have hl := hl.keep0 E14
  have hX := hX.keep0 E14
  have hb := below_step0 hb E14 hb.size
  refine op_store (vs := [(Value.int .i64 (E.getD i default).op), (Value.int .i64 (E.getD i default).vk), (Value.int .i64 (E.getD i default).vi), (Value.string (bs (E.getD i default).vt)), (Value.string (bs (E.getD i default).tb)), (Value.string (bs (E.getD i default).nm)), (E.getD i default).av]) (cs' := [(Value.int .i64 (E.getD i default).op), (Value.int .i64 (E.getD i default).vk), (Value.int .i64 (E.getD i default).vi), (Value.string (bs (E.getD i default).vt)), (Value.string (bs (E.getD i default).tb)), (Value.string (bs (E.getD i default).nm)), (E.getD i default).av]) size28 (ev_hit hN4 rfl) (ev_hit hN4 rfl) rfl rfl (by simp only [List.all_cons, List.all_nil, Bool.true_and, Bool.and_true, (hX.2 (E.getD i default) (getD_mem (by omega))).list.1.one]; try rfl) hB15 (Nat.le_of_ble_eq_true rfl) rfl ?_
  intro w18 hB15 E19
  have z_w18 := E19.size
  have hl := hl.keep E19 (fun k hk => .inr (by simp at hk; omega))
  have hX := hX.keep E19 (fun k hk => .inr (by simp at hk; omega))
  have hb := below_step1 hb E19 hb.size (by omega)
  refine reg_nil (hK8 _ _ (seq_any fun K20 hK20 => one_reg (op_move (ev_base hN4 rfl s4_1) (op_loadA (cs := [(Value.int .i64 (E.getD i default).op), (Value.int .i64 (E.getD i default).vk), (Value.int .i64 (E.getD i default).vi), (Value.string (bs (E.getD i default).vt)), (Value.string (bs (E.getD i default).tb)), (Value.string (bs (E.getD i default).nm)), (E.getD i default).av]) agg28 rfl (ev_hit hN4 rfl) (fun j u hu => by rw [Nat.zero_add]; exact hB15.cell hu) ?_))))
  refine op_fnv (fs := fs) (vs := [(Value.agg #[(Value.int .i64 (E.getD i default).op), (Value.int .i64 (E.getD i default).vk), (Value.int .i64 (E.getD i default).vi), (Value.string (bs (E.getD i default).vt)), (Value.string (bs (E.getD i default).tb)), (Value.string (bs (E.getD i default).nm)), (E.getD i default).av])]) (cs := cs) (ev_hit hN4 rfl) hokg ⟨(ev_hit hN4 rfl), trivial⟩ (hf i (by omega) _ hb) ?_
  rintro _ w21 ⟨E22, rfl⟩
  have E22 := grown_of_below E22
  have z_w21 := E22.size
  have hl := hl.keep0 E22
  have hX := hX.keep0 E22
  have hb := below_step0 hb E22 hb.size
  refine op_assign (ev_hit hN4 rfl) (reg_nil (hK20 _ _ (seq_any fun K23 hK23 => ?_)))
  refine one_reg (op_move (ev_hit hN4 rfl) (op_neq (ev_hit hN4 rfl) rfl (fun c18 => ?_) (fun c18 => ?_)))
  ·
   refine reg_nil (hK23 _ _ (wp_cond_true (ev_hit hN4 rfl) ?_))
   refine seq_any fun K24 hK24 => one_reg (op_move (ev_hit hN4 rfl) (op_assign (ev_hit hN4 rfl) (reg_nil (hK24 _ _ (wp_ret (blk_ret (then_ret (then_ret (blk_ret (then_ret ( ?_)))))))))))
   refine ret1 rfl hd4 (ev_hit hN4 rfl) ⟨_, rfl, ?_⟩
   exact ⟨hb, congrArg (Value.int .i64) (firstE_hit (by omega) hall c18).symm⟩
  ·
   refine reg_nil (hK23 _ _ (wp_cond_false (ev_hit hN4 rfl) (wp_skip (hK7 _ _ (one_reg (op_add (ev_base hN4 rfl s4_10) rfl (add64 (by omega)) ?_))))))
   refine op_move (ev_hit hN4 rfl) (reg_nil ?_)
   -- round 11T 18F
   exact loop_next _ hN4 hd4 ⟨(i + 1), rfl, (sl_base hN4 rfl s4_1), (sl_base hN4 rfl s4_8), (sl_base hN4 rfl s4_9), (sl_hit hN4 rfl).trans (congrArg (Value.int .i64) (by omega)), (by omega), (all_next hall c18), hb, (by omega), hl, hX⟩ (by omega)
 ·
  refine reg_nil (hK5 _ _ (seq_any fun K25 hK25 => wp_cond_false (ev_hit hN4 rfl) (wp_exit (then_exit (then_exit (blk_hit ?_))))))
  refine hK2 _ _ (seq_any fun K26 hK26 => one_reg (op_assign rfl (reg_nil (hK26 _ _ (wp_ret ?_)))))
  refine ret1 rfl hd4 (ev_hit hN4 rfl) ⟨_, rfl, ?_⟩
  exact ⟨hb, congrArg (Value.int .i64) (firstE_none (by omega) hall).symm⟩

theorem FoldI {E : List PItm} {v : Value} {R : PItm → Int} {w : World} (hl : RdC w 0 w.heap.size 3 v E.length (E.flatMap cellsI)) {g : Nat} {fs cs : List Value} (hokg : callOk Try.prog g = true) (hf : ∀ i, i < E.length → ∀ w1, Below w.heap.size w w1 → Ret Try.prog g (fs ++ [(Value.agg #[(Value.int .i64 (E.getD i default).agg), (Value.string (bs (E.getD i default).tb)), (Value.string (bs (E.getD i default).nm))])] ++ cs).toArray w1 (fun v' w' => Below w1.heap.size w1 w' ∧ v' = .int .i64 (R (E.getD i default)))) : Ret Try.prog 72 #[v, (Value.func (.func g) fs.toArray cs.toArray)] w (fun v' w' => Below w.heap.size w w' ∧ v' = .int .i64 (firstE (E.map R))) := by
 have hlm := rd_len hl
 have hb := Below.refl w.heap.size w
 refine enter (N := 21) Try.func72 rfl rfl (by simp) fun a0 hN hd hA => ?_
 have s0 : a0.tmps.getD 0 undef = v := hA 0 (by simp)
 have s1 : a0.tmps.getD 1 undef = (Value.func (.func g) fs.toArray cs.toArray) := hA 1 (by simp)
 clear hA
 refine seq_any fun K27 hK27 => one_reg (op_assign rfl ?_)
 refine reg_nil (hK27 _ _ (seq_any fun K28 hK28 => seq_any fun K29 hK29 => one_reg (op_move (ev_base hN rfl s0) (op_len_rd Try.underlying22 (ev_hit hN rfl) hl ?_))))
 refine op_move rfl (reg_nil (hK29 _ _ (wp_block ?_)))
 refine loop_m (fun mz_ az_ w' => ∃ (i : Nat), mz_ = E.length - i ∧ (az_.tmps.getD 1 undef = (Value.func (.func g) fs.toArray cs.toArray)) ∧ (az_.tmps.getD 8 undef = v) ∧ (az_.tmps.getD 9 undef = (Value.int .i64 ((E.length : Nat) : Int))) ∧ (az_.tmps.getD 10 undef = (Value.int .i64 ((i : Nat) : Int))) ∧ (i ≤ E.length) ∧ (∀ j, j < i → R (E.getD j default) = 0) ∧ (Below w.heap.size w w') ∧ (w.heap.size ≤ w'.heap.size) ∧ (RdC w' 0 w.heap.size 3 v E.length (E.flatMap cellsI))) _ hN hd ⟨0, rfl, (sl_base hN rfl s1), (sl_hit hN rfl), (sl_hit hN rfl), (sl_hit hN rfl), (Nat.zero_le _), (fun _ h => absurd h (Nat.not_lt_zero _)), hb, (Nat.le_refl _), hl⟩ ?_
 rintro _ a30 w30 hN30 hd30 ⟨i, rfl, s30_1, s30_8, s30_9, s30_10, hi, hall, hb, zl_w30, hl⟩
 have z_w30 := hb.size
 refine seq_any fun K31 hK31 => ?_
 refine one_reg (op_lss (ev_base hN30 rfl s30_10) (ev_base hN30 rfl s30_9) (fun c11 => ?_) (fun c11 => ?_))
 ·
  refine reg_nil ?_
  refine hK31 _ _ (seq_any fun K32 hK32 => wp_cond_true (ev_hit hN30 rfl) (wp_skip (hK32 _ _ (seq_any fun K33 hK33 => wp_block ?_))))
  refine seq_any fun K34 hK34 => one_reg (op_index_rd slt22 (ev_base hN30 rfl s30_8) hl (ev_base hN30 rfl s30_10) (by omega) (by omega) ?_)
  intro b35 o36 h0b35 h1b35 hc37
  refine op_loadA (cs := [(Value.int .i64 (E.getD i default).agg), (Value.string (bs (E.getD i default).tb)), (Value.string (bs (E.getD i default).nm))]) agg63 rfl (ev_hit hN30 rfl) (fun j u hu => hc37 j u (by have := (List.getElem?_eq_some_iff.1 hu).1; simpa using this) ((el_pi (i := i) (by omega) (by omega)) j u hu)) ?_
  refine op_alloc (cs := [(Value.int .i64 0), (Value.string (bs [])), (Value.string (bs []))]) zero63 rfl ?_
  intro w38 b39 lo_b39 hi_b39 hB41 E40
  have z_w38 := E40.size
  have hl := hl.keep0 E40
  have hb := below_step0 hb E40 hb.size
  refine op_store (vs := [(Value.int .i64 (E.getD i default).agg), (Value.string (bs (E.getD i default).tb)), (Value.string (bs (E.getD i default).nm))]) (cs' := [(Value.int .i64 (E.getD i default).agg), (Value.string (bs (E.getD i default).tb)), (Value.string (bs (E.getD i default).nm))]) size63 (ev_hit hN30 rfl) (ev_hit hN30 rfl) rfl rfl rfl hB41 (Nat.le_of_ble_eq_true rfl) rfl ?_
  intro w44 hB41 E45
  have z_w44 := E45.size
  have hl := hl.keep E45 (fun k hk => .inr (by simp at hk; omega))
  have hb := below_step1 hb E45 hb.size (by omega)
  refine reg_nil (hK34 _ _ (seq_any fun K46 hK46 => one_reg (op_move (ev_base hN30 rfl s30_1) (op_loadA (cs := [(Value.int .i64 (E.getD i default).agg), (Value.string (bs (E.getD i default).tb)), (Value.string (bs (E.getD i default).nm))]) agg63 rfl (ev_hit hN30 rfl) (fun j u hu => by rw [Nat.zero_add]; exact hB41.cell hu) ?_))))
  refine op_fnv (fs := fs) (vs := [(Value.agg #[(Value.int .i64 (E.getD i default).agg), (Value.string (bs (E.getD i default).tb)), (Value.string (bs (E.getD i default).nm))])]) (cs := cs) (ev_hit hN30 rfl) hokg ⟨(ev_hit hN30 rfl), trivial⟩ (hf i (by omega) _ hb) ?_
  rintro _ w47 ⟨E48, rfl⟩
  have E48 := grown_of_below E48
  have z_w47 := E48.size
  have hl := hl.keep0 E48
  have hb := below_step0 hb E48 hb.size
  refine op_assign (ev_hit hN30 rfl) (reg_nil (hK46 _ _ (seq_any fun K49 hK49 => ?_)))
  refine one_reg (op_move (ev_hit hN30 rfl) (op_neq (ev_hit hN30 rfl) rfl (fun c18 => ?_) (fun c18 => ?_)))
  ·
   refine reg_nil (hK49 _ _ (wp_cond_true (ev_hit hN30 rfl) ?_))
   refine seq_any fun K50 hK50 => one_reg (op_move (ev_hit hN30 rfl) (op_assign (ev_hit hN30 rfl) (reg_nil (hK50 _ _ (wp_ret (blk_ret (then_ret (then_ret (blk_ret (then_ret ( ?_)))))))))))
   refine ret1 rfl hd30 (ev_hit hN30 rfl) ⟨_, rfl, ?_⟩
   exact ⟨hb, congrArg (Value.int .i64) (firstE_hit (by omega) hall c18).symm⟩
  ·
   refine reg_nil (hK49 _ _ (wp_cond_false (ev_hit hN30 rfl) (wp_skip (hK33 _ _ (one_reg (op_add (ev_base hN30 rfl s30_10) rfl (add64 (by omega)) ?_))))))
   refine op_move (ev_hit hN30 rfl) (reg_nil ?_)
   -- round 11T 18F
   exact loop_next _ hN30 hd30 ⟨(i + 1), rfl, (sl_base hN30 rfl s30_1), (sl_base hN30 rfl s30_8), (sl_base hN30 rfl s30_9), (sl_hit hN30 rfl).trans (congrArg (Value.int .i64) (by omega)), (by omega), (all_next hall c18), hb, (by omega), hl⟩ (by omega)
 ·
  refine reg_nil (hK31 _ _ (seq_any fun K51 hK51 => wp_cond_false (ev_hit hN30 rfl) (wp_exit (then_exit (then_exit (blk_hit ?_))))))
  refine hK28 _ _ (seq_any fun K52 hK52 => one_reg (op_assign rfl (reg_nil (hK52 _ _ (wp_ret ?_)))))
  refine ret1 rfl hd30 (ev_hit hN30 rfl) ⟨_, rfl, ?_⟩
  exact ⟨hb, congrArg (Value.int .i64) (firstE_none (by omega) hall).symm⟩

theorem FoldKind {C : List PItm} {K : List Int} {vc vk v : Value} {E : List XE} {p3 p4 p8 B : Nat} {F : Nat → Prop} {w : World} (ih : ∀ a ∈ E, KindP a) (hz0 : C.length ≤ 9223372036854775807) (hz1 : K.length ≤ 9223372036854775807) (hB : B ≤ w.heap.size) (hC : RdC w 0 B 3 vc C.length (C.flatMap cellsI)) (hK : RdC w 0 B 1 vk K.length (K.map (Value.int .i64))) (h3 : Bx w p3 22 [vc]) (h4 : Bx w p4 23 [vk]) (d3 : ¬ F p3) (d4 : ¬ F p4) (hA : AccI w B p8 [] F) (hE : E.length ≤ 2) (hX : XsRd w B v E) : Ret Try.prog 31 #[v, (Value.func (.func 32) #[] #[(ptr p3 0), (ptr p4 0), (ptr p8 0)])] w (fun v' w' => Gr w w' F ∧ v' = .int .i64 (firstE (E.map fun a => (kindX C K a).2)) ∧ ∃ L F', AccI w' B p8 L F' ∧ NewF w.heap.size F F' ∧ (firstE (E.map fun a => (kindX C K a).2) = 0 → L = E.map fun a => (kindX C K a).1)) := by
 have hR := hX.1
 have hb := Gr.refl w F
 refine enter (N := 21) Try.func31 rfl rfl (by simp) fun a0 hN hd hA => ?_
 have s0 : a0.tmps.getD 0 undef = v := hA 0 (by simp)
 have s1 : a0.tmps.getD 1 undef = (Value.func (.func 32) #[] #[(ptr p3 0), (ptr p4 0), (ptr p8 0)]) := hA 1 (by simp)
 clear hA
 refine seq_any fun K53 hK53 => one_reg (op_assign rfl ?_)
 refine reg_nil (hK53 _ _ (seq_any fun K54 hK54 => seq_any fun K55 hK55 => one_reg (op_move (ev_base hN rfl s0) (op_len_rd Try.underlying26 (ev_hit hN rfl) hR ?_))))
 refine op_move rfl (reg_nil (hK55 _ _ (wp_block ?_)))
 refine loop_m (fun mz_ az_ w' => ∃ (i : Nat) (FL : Nat → Prop), mz_ = E.length - i ∧ (az_.tmps.getD 1 undef = (Value.func (.func 32) #[] #[(ptr p3 0), (ptr p4 0), (ptr p8 0)])) ∧ (az_.tmps.getD 8 undef = v) ∧ (az_.tmps.getD 9 undef = (Value.int .i64 ((E.length : Nat) : Int))) ∧ (az_.tmps.getD 10 undef = (Value.int .i64 ((i : Nat) : Int))) ∧ (i ≤ E.length) ∧ (∀ j, j < i → (kindX C K (E.getD j default)).2 = 0) ∧ (NewF w.heap.size F FL) ∧ (¬ FL p3) ∧ (¬ FL p4) ∧ (Gr w w' F) ∧ (w.heap.size ≤ w'.heap.size) ∧ (RdC w' 0 B 3 vc C.length (C.flatMap cellsI)) ∧ (RdC w' 0 B 1 vk K.length (K.map (Value.int .i64))) ∧ (Bx w' p3 22 [vc]) ∧ (Bx w' p4 23 [vk]) ∧ (RdC w' 0 B 7 v E.length (E.flatMap cellsX)) ∧ (XsRd w' B v E) ∧ (AccI w' B p8 ((E.take i).map (fun a => (kindX C K a).1)) FL)) _ hN hd ⟨0, F, rfl, (sl_base hN rfl s1), (sl_hit hN rfl), (sl_hit hN rfl), (sl_hit hN rfl), (Nat.zero_le _), (fun _ h => absurd h (Nat.not_lt_zero _)), NewF.refl _ _, d3, d4, hb, (Nat.le_refl _), hC, hK, h3, h4, hR, hX, hA⟩ ?_
 rintro _ a56 w56 hN56 hd56 ⟨i, FL, rfl, s56_1, s56_8, s56_9, s56_10, hi, hall, hN0, djp3, djp4, hb, zl_w56, hC, hK, h3, h4, hR, hX, hA⟩
 have z_w56 := hb.size
 refine seq_any fun K57 hK57 => ?_
 refine one_reg (op_lss (ev_base hN56 rfl s56_10) (ev_base hN56 rfl s56_9) (fun c11 => ?_) (fun c11 => ?_))
 ·
  refine reg_nil ?_
  refine hK57 _ _ (seq_any fun K58 hK58 => wp_cond_true (ev_hit hN56 rfl) (wp_skip (hK58 _ _ (seq_any fun K59 hK59 => wp_block ?_))))
  refine seq_any fun K60 hK60 => one_reg (op_index_rd slt26 (ev_base hN56 rfl s56_8) hR (ev_base hN56 rfl s56_10) (by omega) (by omega) ?_)
  intro b61 o62 h0b61 h1b61 hc63
  refine op_loadA (cs := [(Value.int .i64 (E.getD i default).op), (Value.int .i64 (E.getD i default).vk), (Value.int .i64 (E.getD i default).vi), (Value.string (bs (E.getD i default).vt)), (Value.string (bs (E.getD i default).tb)), (Value.string (bs (E.getD i default).nm)), (E.getD i default).av]) agg28 rfl (ev_hit hN56 rfl) (fun j u hu => hc63 j u (by have := (List.getElem?_eq_some_iff.1 hu).1; simpa using this) ((el_xe (i := i) (by omega) (by omega)) j u hu)) ?_
  refine op_alloc (cs := [(Value.int .i64 0), (Value.int .i64 0), (Value.int .i64 0), (Value.string (bs [])), (Value.string (bs [])), (Value.string (bs [])), (Value.slice none 0 0)]) zero28 rfl ?_
  intro w64 b65 lo_b65 hi_b65 hB67 E66
  have dj68 : ¬ FL b65 := fun hf => by have := (hA.lt _ hf).2; omega
  have z_w64 := E66.size
  have hC := hC.keep0 E66
  have hK := hK.keep0 E66
  have h3 := h3.keep0 E66
  have h4 := h4.keep0 E66
  have hR := hR.keep0 E66
  have hX := hX.keep0 E66
  have hA := hA.kz E66
  have hb := hb.step0 E66
  have hB67_old := hB67
  refine op_store (vs := [(Value.int .i64 (E.getD i default).op), (Value.int .i64 (E.getD i default).vk), (Value.int .i64 (E.getD i default).vi), (Value.string (bs (E.getD i default).vt)), (Value.string (bs (E.getD i default).tb)), (Value.string (bs (E.getD i default).nm)), (E.getD i default).av]) (cs' := [(Value.int .i64 (E.getD i default).op), (Value.int .i64 (E.getD i default).vk), (Value.int .i64 (E.getD i default).vi), (Value.string (bs (E.getD i default).vt)), (Value.string (bs (E.getD i default).tb)), (Value.string (bs (E.getD i default).nm)), (E.getD i default).av]) size28 (ev_hit hN56 rfl) (ev_hit hN56 rfl) rfl rfl (by simp only [List.all_cons, List.all_nil, Bool.true_and, Bool.and_true, (hX.2 (E.getD i default) (getD_mem (by omega))).list.1.one]; try rfl) hB67 (Nat.le_of_ble_eq_true rfl) rfl ?_
  intro w71 hB67 E72
  have z_w71 := E72.size
  have hC := hC.keep E72 (fun k hk => .inr (by simp at hk; omega))
  have hK := hK.keep E72 (fun k hk => .inr (by simp at hk; omega))
  have h3 := h3.keep E72 (fun hh => h3.ne hB67_old (by decide) (Option.some.inj hh))
  have h4 := h4.keep E72 (fun hh => h4.ne hB67_old (by decide) (Option.some.inj hh))
  have hR := hR.keep E72 (fun k hk => .inr (by simp at hk; omega))
  have hX := hX.keep E72 (fun k hk => .inr (by simp at hk; omega))
  have hA := hA.keepG (Gr.of E72) (Dj.one dj68)
  have hb := hb.step1 E72 (by omega)
  refine reg_nil (hK60 _ _ (seq_any fun K73 hK73 => one_reg (op_move (ev_base hN56 rfl s56_1) (op_loadA (cs := [(Value.int .i64 (E.getD i default).op), (Value.int .i64 (E.getD i default).vk), (Value.int .i64 (E.getD i default).vi), (Value.string (bs (E.getD i default).vt)), (Value.string (bs (E.getD i default).tb)), (Value.string (bs (E.getD i default).nm)), (E.getD i default).av]) agg28 rfl (ev_hit hN56 rfl) (fun j u hu => by rw [Nat.zero_add]; exact hB67.cell hu) ?_))))
  refine op_fnv (fs := []) (vs := [(Value.agg #[(Value.int .i64 (E.getD i default).op), (Value.int .i64 (E.getD i default).vk), (Value.int .i64 (E.getD i default).vi), (Value.string (bs (E.getD i default).vt)), (Value.string (bs (E.getD i default).tb)), (Value.string (bs (E.getD i default).nm)), (E.getD i default).av])]) (cs := [(ptr p3 0), (ptr p4 0), (ptr p8 0)]) (ev_hit hN56 rfl) ok32 ⟨(ev_hit hN56 rfl), trivial⟩ (Kind1_ret (ih _ (getD_mem (by omega))) (by first | assumption | omega | (simp only [List.length_append, List.length_cons, List.length_nil, List.length_drop, List.length_take]; omega) | (dsimp only; omega) | decide | (simp [keyV, be8_len]; done)) (by first | assumption | omega | (simp only [List.length_append, List.length_cons, List.length_nil, List.length_drop, List.length_take]; omega) | (dsimp only; omega) | decide | (simp [keyV, be8_len]; done)) (by omega) hC hK h3 h4 djp4 hA (by simp only [List.length_map, List.length_take]; omega) (hX.2 _ (getD_mem (by omega)))) ?_
  rintro _ w75 ⟨E76, rfl, F74, hA74, hN74⟩
  have bd77 := h3.lt
  have bd78 := h4.lt
  have bd79 := hB67.lt
  have hA_old := hA
  have z_w75 := E76.size
  have hC := hC.keepG E76 (fun k hk => .inr (by have := hA_old.lt k hk; omega))
  have hK := hK.keepG E76 (fun k hk => .inr (by have := hA_old.lt k hk; omega))
  have h3 := h3.keepG E76 djp3
  have h4 := h4.keepG E76 djp4
  have hR := hR.keepG E76 (fun k hk => .inr (by have := hA_old.lt k hk; omega))
  have hX := hX.keepG E76 (fun k hk => .inr (by have := hA_old.lt k hk; omega))
  have hb := hb.stepF E76 (fun k hk h => (hN0 k h).elim id fun q => absurd q (by omega))
  have dj80 : ¬ F74 p3 := ne_stepF hN74 bd77 djp3
  have dj81 : ¬ F74 p4 := ne_stepF hN74 bd78 djp4
  refine op_assign (ev_hit hN56 rfl) (reg_nil (hK73 _ _ (seq_any fun K83 hK83 => ?_)))
  refine one_reg (op_move (ev_hit hN56 rfl) (op_neq (ev_hit hN56 rfl) rfl (fun c18 => ?_) (fun c18 => ?_)))
  ·
   refine reg_nil (hK83 _ _ (wp_cond_true (ev_hit hN56 rfl) ?_))
   refine seq_any fun K84 hK84 => one_reg (op_move (ev_hit hN56 rfl) (op_assign (ev_hit hN56 rfl) (reg_nil (hK84 _ _ (wp_ret (blk_ret (then_ret (then_ret (blk_ret (then_ret ( ?_)))))))))))
   refine ret1 rfl hd56 (ev_hit hN56 rfl) ⟨_, rfl, ?_⟩
   have e9 := firstE_hit (f := fun a => (kindX C K a).2) (by omega) hall c18
   exact ⟨hb, congrArg (Value.int .i64) e9.symm, _, _, hA74, hN0.trans hN74 (by omega), fun h9 => absurd (e9.symm.trans h9) c18⟩
  ·
   refine reg_nil (hK83 _ _ (wp_cond_false (ev_hit hN56 rfl) (wp_skip (hK59 _ _ (one_reg (op_add (ev_base hN56 rfl s56_10) rfl (add64 (by omega)) ?_))))))
   refine op_move (ev_hit hN56 rfl) (reg_nil ?_)
   -- round 11T 18F
   exact loop_next _ hN56 hd56 ⟨(i + 1), F74, rfl, (sl_base hN56 rfl s56_1), (sl_base hN56 rfl s56_8), (sl_base hN56 rfl s56_9), (sl_hit hN56 rfl).trans (congrArg (Value.int .i64) (by omega)), (by omega), (all_next hall c18), (hN0.trans hN74 (by omega)), dj80, dj81, hb, (by omega), hC, hK, h3, h4, hR, hX, (by rw [take_map_snoc _ (by omega)]; exact hA74)⟩ (by omega)
 ·
  refine reg_nil (hK57 _ _ (seq_any fun K85 hK85 => wp_cond_false (ev_hit hN56 rfl) (wp_exit (then_exit (then_exit (blk_hit ?_))))))
  refine hK54 _ _ (seq_any fun K86 hK86 => one_reg (op_assign rfl (reg_nil (hK86 _ _ (wp_ret ?_)))))
  refine ret1 rfl hd56 (ev_hit hN56 rfl) ⟨_, rfl, ?_⟩
  have e9 := firstE_none (f := fun a => (kindX C K a).2) (i := i) (by omega) hall
  exact ⟨hb, congrArg (Value.int .i64) e9.symm, _, _, hA, hN0, fun h9 => by rw [List.take_of_length_le (by omega)]⟩

theorem Kind_in (C : List PItm) (K : List Int) (vc vk : Value) (e : XE) (w : World) (ih : ∀ a ∈ e.args, KindP a) (hz0 : C.length ≤ 9223372036854775807) (hz1 : K.length ≤ 9223372036854775807) (hC : RdC w 0 w.heap.size 3 vc C.length (C.flatMap cellsI)) (hK : RdC w 0 w.heap.size 1 vk K.length (K.map (Value.int .i64))) (he : XRd w w.heap.size e) : Ret Try.prog 14 #[vc, vk, (Value.agg #[(Value.int .i64 e.op), (Value.int .i64 e.vk), (Value.int .i64 e.vi), (Value.string (bs e.vt)), (Value.string (bs e.tb)), (Value.string (bs e.nm)), e.av])] w (fun v' w' => Below w.heap.size w w' ∧ v' = .tuple #[.int .i64 (kindX C K e).1, .int .i64 (kindX C K e).2]) := by
 have hX := he.list
 have hR := hX.1
 have hlm := rd_len hR
 have hb := Below.refl w.heap.size w
 refine enter (N := 30) Try.func14 rfl rfl (by simp) fun a0 hN hd hA => ?_
 have s0 : a0.tmps.getD 0 undef = vc := hA 0 (by simp)
 have s1 : a0.tmps.getD 1 undef = vk := hA 1 (by simp)
 have s2 : a0.tmps.getD 2 undef = (Value.agg #[(Value.int .i64 e.op), (Value.int .i64 e.vk), (Value.int .i64 e.vi), (Value.string (bs e.vt)), (Value.string (bs e.tb)), (Value.string (bs e.nm)), e.av]) := hA 2 (by simp)
 clear hA
 refine seq_any fun K1 hK1 => one_reg (op_box (cs := [vc]) (ev_base hN rfl s0) (RdC.cells hC) ?_)
 intro w2 b3 lo_b3 hi_b3 hB5 E4
 have z_w2 := E4.size
 have hC := hC.keep0 E4
 have hK := hK.keep0 E4
 have hR := hR.keep0 E4
 have hX := hX.keep0 E4
 have hb := below_step0 hb E4 hb.size
 refine op_box (cs := [vk]) (ev_base hN rfl s1) (RdC.cells hK) ?_
 intro w6 b7 lo_b7 hi_b7 hB9 E8
 have z_w6 := E8.size
 have hC := hC.keep0 E8
 have hK := hK.keep0 E8
 have hR := hR.keep0 E8
 have hX := hX.keep0 E8
 have hB5 := hB5.keep0 E8
 have hb := below_step0 hb E8 hb.size
 refine op_box (cs := [(Value.int .i64 e.op), (Value.int .i64 e.vk), (Value.int .i64 e.vi), (Value.string (bs e.vt)), (Value.string (bs e.tb)), (Value.string (bs e.nm)), e.av]) (ev_base hN rfl s2) rfl ?_
 intro w10 b11 lo_b11 hi_b11 hB13 E12
 have z_w10 := E12.size
 have hC := hC.keep0 E12
 have hK := hK.keep0 E12
 have hR := hR.keep0 E12
 have hX := hX.keep0 E12
 have hB5 := hB5.keep0 E12
 have hB9 := hB9.keep0 E12
 have hb := below_step0 hb E12 hb.size
 refine op_assign rfl (op_assign rfl (reg_nil (hK1 _ _ (seq_any fun K14 hK14 => seq_any fun K15 hK15 => reg_still mixed (by kernel_rfl) ?_))))
 intro w17 E16
 have z_w17 := E16.size
 have hC := hC.keep0 E16
 have hK := hK.keep0 E16
 have hR := hR.keep0 E16
 have hX := hX.keep0 E16
 have hB5 := hB5.keep0 E16
 have hB9 := hB9.keep0 E16
 have hB13 := hB13.keep0 E16
 have hb := below_step0 hb E16 hb.size
 refine st_step rfl (fun _ h9 => op_field fld28_4 (ev_hit hN rfl) h9) ?_
 refine st_step rfl (fun _ h9 => op_load1 (v := e.av) one26 (ev_hit hN rfl) (hB13.cell rfl) h9) ?_
 refine st_step rfl (fun _ h9 => op_len_rd Try.underlying26 (ev_hit hN rfl) hR h9) ?_
 refine st_step rfl (fun _ h9 => op_field fld28_0 (ev_hit hN rfl) h9) ?_
 refine st_step rfl (fun _ h9 => op_load1 (v := (Value.int .i64 e.op)) one3 (ev_hit hN rfl) (hB13.cell rfl) h9) ?_
 refine st_fn (vs := [(Value.int .i64 e.op)]) ok30 (⟨(ev_hit hN rfl), trivial⟩) (args_ret e.op _) ?_
 refine st_step rfl (fun _ h9 => op_cmp (b := (decide (((e.args.length : Nat) : Int) ≠ (argsN e.op)))) (ev_hit hN rfl) (ev_hit hN rfl) (b_neq rfl) h9) ?_
 refine st_nil ?_
 refine hK15 _ _ (wp_cond_split (ev_hit hN rfl) (fun c15 => ?_) (fun c15 => ?_))
 ·
  have c15 := of_decide_eq_true c15
  refine seq_any fun K18 hK18 => one_reg (op_assign rfl (op_assign rfl (reg_nil (hK18 _ _ (wp_ret (then_ret ( ?_)))))))
  refine ret2 rfl hd (ev_hit hN rfl) (ev_hit hN rfl) ⟨_, rfl, ?_⟩
  have e9 : kindX C K e = (0, 1) := by rw [kindX_eq, if_pos c15]
  rw [e9]; exact ⟨hb, rfl⟩
 ·
  have c15 := of_decide_eq_false c15
  refine wp_skip (hK14 _ _ (seq_any fun K19 hK19 => one_reg (op_alloc (cs := [(Value.slice none 0 0)]) zero23 rfl ?_)))
  intro w20 b21 lo_b21 hi_b21 hB23 E22
  have z_w20 := E22.size
  have hC := hC.keep0 E22
  have hK := hK.keep0 E22
  have hX := hX.keep0 E22
  have hB5 := hB5.keep0 E22
  have hB9 := hB9.keep0 E22
  have hB13 := hB13.keep0 E22
  have hb := below_step0 hb E22 hb.size
  refine reg_nil (hK19 _ _ (seq_any fun K24 hK24 => one_reg (op_field fld28_4 (ev_hit hN rfl) (op_load1 (v := e.av) one26 (ev_hit hN rfl) (hB13.cell rfl) (op_mkfn (cv := [(ptr b3 0), (ptr b7 0), (ptr b21 0)]) ⟨(ev_hit hN rfl), ⟨(ev_hit hN rfl), ⟨(ev_hit hN rfl), trivial⟩⟩⟩ ?_)))))
  have hA25 : AccI w20 w.heap.size b21 [] (fun k => k = b21 ∨ Bl (.slice none 0 0) k) := ⟨by omega, _, hB23, Own.nil _ _ _ _, fun _ => Iff.rfl⟩
  have d325 : ¬ (fun k => k = b21 ∨ Bl (.slice none 0 0) k) b3 := fun h => h.elim (fun h => by omega) (fun h => (by cases h))
  have d425 : ¬ (fun k => k = b21 ∨ Bl (.slice none 0 0) k) b7 := fun h => h.elim (fun h => by omega) (fun h => (by cases h))
  refine op_fn (vs := [e.av, (Value.func (.func 32) #[] #[(ptr b3 0), (ptr b7 0), (ptr b21 0)])]) ok31 ⟨(ev_hit hN rfl), ⟨(ev_hit hN rfl), trivial⟩⟩ (FoldKind (B := w.heap.size) (p3 := b3) (p4 := b7) (p8 := b21) ih (by first | assumption | omega | (simp only [List.length_append, List.length_cons, List.length_nil, List.length_drop, List.length_take]; omega) | (dsimp only; omega) | decide | (simp [keyV, be8_len]; done)) (by first | assumption | omega | (simp only [List.length_append, List.length_cons, List.length_nil, List.length_drop, List.length_take]; omega) | (dsimp only; omega) | decide | (simp [keyV, be8_len]; done)) (by omega) hC hK hB5 hB9 d325 d425 hA25 (by have h9 := c15; unfold argsN at h9; (repeat' split at h9) <;> omega) hX) ?_
  rintro _ w26 ⟨E27, rfl, L25, F25, hB25, hN25, hE25⟩
  have d28 : ¬ (fun k => k = b21 ∨ Bl (.slice none 0 0) k) b11 := fun h => h.elim (fun h => by omega) (fun h => (by cases h))
  have bd29 := hB5.lt
  have bd30 := hB9.lt
  have bd31 := hB13.lt
  have hA25_old := hA25
  have z_w26 := E27.size
  have hC := hC.keepG E27 (fun k hk => .inr (by have := hA25_old.lt k hk; omega))
  have hK := hK.keepG E27 (fun k hk => .inr (by have := hA25_old.lt k hk; omega))
  have hB5 := hB5.keepG E27 d325
  have hB9 := hB9.keepG E27 d425
  have hB13 := hB13.keepG E27 d28
  have hb := below_stepG hb E27 hb.size (fun k hk => (hA25_old.lt k hk).1)
  refine op_assign (ev_hit hN rfl) (reg_nil (hK24 _ _ (seq_any fun K35 hK35 => seq_any fun K36 hK36 => ?_)))
  refine one_reg (op_move (ev_hit hN rfl) (op_neq (ev_hit hN rfl) rfl (fun c21 => ?_) (fun c21 => ?_)))
  ·
   refine reg_nil (hK36 _ _ (wp_cond_true (ev_hit hN rfl) (seq_any fun K37 hK37 => ?_)))
   refine one_reg (op_move (ev_hit hN rfl) (op_assign rfl (op_assign (ev_hit hN rfl) (reg_nil (hK37 _ _ (wp_ret (then_ret ( ?_))))))))
   refine ret2 rfl hd (ev_hit hN rfl) (ev_hit hN rfl) ⟨_, rfl, ?_⟩
   have e9 : kindX C K e = (0, firstE (e.args.map fun a => (kindX C K a).2)) := by rw [kindX_eq, if_neg c15, if_pos c21]
   rw [e9]; exact ⟨hb, rfl⟩
  ·
   refine reg_nil (hK36 _ _ (wp_cond_false (ev_hit hN rfl) (wp_skip (hK35 _ _ (seq_any fun K38 hK38 => one_reg ?_)))))
   have hL8 := hE25 c21
   subst hL8
   obtain ⟨hB8, lv, hx8, hO8, hF8⟩ := hB25
   refine op_load1 (v := vc) one22 (ev_hit hN rfl) (hB5.cell rfl) (op_load1 (v := vk) one23 (ev_hit hN rfl) (hB9.cell rfl) (op_loadA (cs := [(Value.int .i64 e.op), (Value.int .i64 e.vk), (Value.int .i64 e.vi), (Value.string (bs e.vt)), (Value.string (bs e.tb)), (Value.string (bs e.nm)), e.av]) agg28 rfl (ev_hit hN rfl) (fun j u hu => by rw [Nat.zero_add]; exact hB13.cell hu) ?_))
   refine op_load1 (v := lv) one23 (ev_hit hN rfl) (hx8.cell rfl) (op_fn (vs := [vc, vk, (Value.agg #[(Value.int .i64 e.op), (Value.int .i64 e.vk), (Value.int .i64 e.vi), (Value.string (bs e.vt)), (Value.string (bs e.tb)), (Value.string (bs e.nm)), e.av]), lv]) ok33 ⟨(ev_hit hN rfl), ⟨(ev_hit hN rfl), ⟨(ev_hit hN rfl), ⟨(ev_hit hN rfl), trivial⟩⟩⟩⟩ (of_ret C K _ _ e (e.args.map fun a => (kindX C K a).1) _ _ (by first | assumption | omega | (simp only [List.length_append, List.length_cons, List.length_nil, List.length_drop, List.length_take]; omega) | (dsimp only; omega) | decide | (simp [keyV, be8_len]; done)) (by first | assumption | omega | (simp only [List.length_append, List.length_cons, List.length_nil, List.length_drop, List.length_take]; omega) | (dsimp only; omega) | decide | (simp [keyV, be8_len]; done)) (by rw [List.length_map]; omega) (hC.mono (Nat.zero_le _) (by omega)) (hK.mono (Nat.zero_le _) (by omega)) (hO8.rdw.mono (Nat.zero_le _) (by omega))) ?_)
   rintro _ w39 ⟨E40, rfl⟩
   have E40 := grown_of_below E40
   have z_w39 := E40.size
   have hb := below_step0 hb E40 hb.size
   refine op_extract (ev_hit hN rfl) rfl ?_
   refine op_extract (ev_hit hN rfl) rfl ?_
   refine op_assign (ev_hit hN rfl) (op_assign (ev_hit hN rfl) (reg_nil (hK38 _ _ (wp_ret ?_))))
   refine ret2 rfl hd (ev_hit hN rfl) (ev_hit hN rfl) ⟨_, rfl, ?_⟩
   have e9 : kindX C K e = ofX C K e.op e.vk e.tb e.nm (e.args.map fun a => (kindX C K a).1) := by rw [kindX_eq, if_neg c15, if_neg (fun h => h c21)]
   rw [e9]; exact ⟨hb, rfl⟩

theorem Kind_all : ∀ e, KindP e := XE.ind fun e ih C K vc vk w h1 h2 hC hK he => Kind_in C K vc vk e w ih h1 h2 hC hK he
end Go.Proofs.Ythflnkfghogaoaa

namespace Go.Gx
structure PCol where
  nm : List UInt8
  kind : Int
  ref : List UInt8
instance : Inhabited PCol := ⟨⟨[], 0, []⟩⟩
def cellsC (c : PCol) : List Value := [.string (bs c.nm), .int .i64 c.kind, .string (bs c.ref)]
theorem el_pc {l : List PCol} {e : Int} {i : Nat} (he : e = (i : Int)) (h : i < l.length) : ∀ j u, (cellsC (l.getD i default))[j]? = some u → (l.flatMap cellsC)[e.toNat * 3 + j]? = some u :=
  el_flat (f := cellsC) (d := default) (by decide) (fun _ _ => rfl) he h
structure StF where
  kind : Int
  tb : List UInt8
  nm : List UInt8
  cv : Value
  cols : List PCol
  gv : Value
  tags : List UInt16
  vv : Value
  vals : List XE
  iv : Value
  items : List PItm
  join : List UInt8
  ov : Value
  on : List XE
  wv : Value
  wh : List XE
  rv : Value
  ord : List XE
  desc : Bool
inductive XS where
  | mk (f : StF) (nv : Value) (inner : List XS)
namespace XS
def f : XS → StF | mk f _ _ => f
def nv : XS → Value | mk _ v _ => v
def inner : XS → List XS | mk _ _ l => l
end XS
def Nil0 : Value := .slice none 0 0
def StF0 : StF := ⟨0, [], [], Nil0, [], Nil0, [], Nil0, [], Nil0, [], [], Nil0, [], Nil0, [], Nil0, [], false⟩
instance : Inhabited XS := ⟨.mk StF0 Nil0 []⟩
def cellsS (s : XS) : List Value := [.int .i64 s.f.kind, .string (bs s.f.tb), .string (bs s.f.nm), s.f.cv, s.f.gv, s.f.vv, s.f.iv, .string (bs s.f.join), s.f.ov, s.f.wv, s.f.rv, .bool s.f.desc, s.nv]
theorem el_xs {l : List XS} {e : Int} {i : Nat} (he : e = (i : Int)) (h : i < l.length) : ∀ j u, (cellsS (l.getD i default))[j]? = some u → (l.flatMap cellsS)[e.toNat * 13 + j]? = some u :=
  el_flat (f := cellsS) (d := default) (by decide) (fun _ _ => rfl) he h
def FRd (w : World) (B : Nat) (f : StF) : Prop :=
  RdC w 0 B 3 f.cv f.cols.length (f.cols.flatMap cellsC) ∧ RdC w 0 B 1 f.gv f.tags.length (f.tags.map u16v) ∧ XsRd w B f.vv f.vals ∧ RdC w 0 B 3 f.iv f.items.length (f.items.flatMap cellsI) ∧ XsRd w B f.ov f.on ∧ XsRd w B f.wv f.wh ∧ XsRd w B f.rv f.ord
inductive SRd (w : World) (B : Nat) : XS → Prop
  | mk {s : XS} (hf : FRd w B s.f) (h : RdC w 0 B 13 s.nv s.inner.length (s.inner.flatMap cellsS)) (hs : ∀ a ∈ s.inner, SRd w B a) : SRd w B s
section
variable {w w' : World} {B B' : Nat} {f : StF} {s : XS} {row : Option Nat} {F : Nat → Prop}
theorem FRd.keep (h : FRd w B f) (E : w.grownBy w' row) (hne : ∀ k, row = some k → k < 0 ∨ B ≤ k) : FRd w' B f :=
  ⟨h.1.keep E hne, h.2.1.keep E hne, h.2.2.1.keep E hne, h.2.2.2.1.keep E hne, h.2.2.2.2.1.keep E hne, h.2.2.2.2.2.1.keep E hne, h.2.2.2.2.2.2.keep E hne⟩
theorem FRd.keepG (h : FRd w B f) (E : Gr w w' F) (hn : ∀ k, F k → k < 0 ∨ B ≤ k) : FRd w' B f :=
  ⟨h.1.keepG E hn, h.2.1.keepG E hn, h.2.2.1.keepG E hn, h.2.2.2.1.keepG E hn, h.2.2.2.2.1.keepG E hn, h.2.2.2.2.2.1.keepG E hn, h.2.2.2.2.2.2.keepG E hn⟩
theorem FRd.mono (h : FRd w B f) (hB : B ≤ B') : FRd w B' f :=
  ⟨h.1.mono (Nat.le_refl _) hB, h.2.1.mono (Nat.le_refl _) hB, h.2.2.1.mono hB, h.2.2.2.1.mono (Nat.le_refl _) hB, h.2.2.2.2.1.mono hB, h.2.2.2.2.2.1.mono hB, h.2.2.2.2.2.2.mono hB⟩
theorem SRd.keep (h : SRd w B s) (E : w.grownBy w' row) (hne : ∀ k, row = some k → k < 0 ∨ B ≤ k) : SRd w' B s := by
  induction h with | mk hf h _ ih => exact .mk (hf.keep E hne) (h.keep E hne) ih
theorem SRd.keep0 (h : SRd w B s) (E : w.grownBy w' none) : SRd w' B s := h.keep E (by simp)
theorem SRd.keepG (h : SRd w B s) (E : Gr w w' F) (hn : ∀ k, F k → k < 0 ∨ B ≤ k) : SRd w' B s := by
  induction h with | mk hf h _ ih => exact .mk (hf.keepG E hn) (h.keepG E hn) ih
theorem SRd.keepO {base e sz n : Nat} {u : Value} {ws : List Value} (h : SRd w B s) (O : Own w base e sz u n ws) (E' : w.grownBy w' u.ownBlock) (hne : B ≤ base) : SRd w' B s :=
  h.keep E' fun k hk => .inr (Nat.le_trans hne (O.lt k hk).1)
theorem SRd.mono (h : SRd w B s) (hB : B ≤ B') : SRd w B' s := by
  induction h with | mk hf h _ ih => exact .mk (hf.mono hB) (h.mono (Nat.le_refl _) hB) ih
theorem SRd.ff (h : SRd w B s) : FRd w B s.f := by cases h with | mk hf _ _ => exact hf
theorem SRd.rd (h : SRd w B s) : RdC w 0 B 13 s.nv s.inner.length (s.inner.flatMap cellsS) := by cases h with | mk _ h _ => exact h
theorem SRd.all (h : SRd w B s) : ∀ a ∈ s.inner, SRd w B a := by cases h with | mk _ _ h => exact h
end
theorem XS.ind {P : XS → Prop} (h : ∀ s, (∀ a ∈ s.inner, P a) → P s) : ∀ s, P s := by
  intro s
  refine XS.rec (motive_1 := P) (motive_2 := fun l => ∀ a ∈ l, P a) (fun f nv inner ih => h _ ih) (fun a ha => (by cases ha)) (fun e l h1 h2 a ha => ?_) s
  rcases List.mem_cons.1 ha with rfl | ha
  · exact h1
  · exact h2 a ha
/-! which statements may be done -/
structure PTab where
  nm : List UInt8
  cols : List PCol
  idx : List (List UInt8)
instance : Inhabited PTab := ⟨⟨[], [], []⟩⟩
def tabAt (T : List PTab) (nm : List UInt8) : Option PTab := T.find? fun t => decide (t.nm = nm)
def colsOf (tb : List UInt8) (l : List PCol) : List PItm := l.map fun c => ⟨0, tb, c.nm⟩
def kindsOf (l : List PCol) : List Int := l.map PCol.kind
def colIx (l : List PCol) (nm : List UInt8) : Int := match l.findIdx? fun c => decide (c.nm = nm) with | some i => i | none => -1
def colsOk (l : List XE) : Bool := l.all fun e => decide (e.op = 2) && decide (e.args.length = 0)
def listsOk (f : StF) (n : Nat) : Bool :=
  if f.kind = 6 then decide (f.wh.length ≤ 1) && decide (f.ord.length ≤ 1) && decide (f.on.length = if f.join = [] then 0 else 2) && colsOk f.on && colsOk f.ord
  else if f.kind = 7 then decide (f.wh.length ≤ 1) && decide (f.vals.length = 1)
  else if f.kind = 8 then decide (f.wh.length ≤ 1)
  else if f.kind = 3 ∨ f.kind = 4 then decide (n = 1)
  else decide (1 ≤ f.kind) && decide (f.kind ≤ 13)
def insE (t : PTab) (f : StF) : Int :=
  if f.vals.length ≠ t.cols.length then 7 else firstE ((List.range f.vals.length).map fun i => mustX [] [] (f.vals.getD i default) (t.cols.getD i default).kind)
def itemE (C : List PItm) (K : List Int) (x : PItm) : Int :=
  if x.agg < 0 ∨ 4 < x.agg ∨ (x.agg = 1 ∧ x.nm ≠ []) then 1 else if x.agg = 1 then 0 else if (colAt C K x.tb x.nm).2 ≠ 0 then (colAt C K x.tb x.nm).2 else if x.agg = 2 ∧ (colAt C K x.tb x.nm).1 = 2 then 11 else 0
def aggsN (l : List PItm) : Nat := l.countP fun x => decide (x.agg ≠ 0)
def selE (f : StF) (C : List PItm) (K : List Int) : Int :=
  if firstE (f.items.map (itemE C K)) ≠ 0 then firstE (f.items.map (itemE C K))
  else if 0 < aggsN f.items ∧ (aggsN f.items < f.items.length ∨ 0 < f.ord.length) then 11
  else if whereX C K f.wh ≠ 0 then whereX C K f.wh
  else firstE (f.ord.map fun e => (colAt C K e.tb e.nm).2)
def onE (C : List PItm) (K : List Int) (l : List XE) : Int := if (kindX C K (l.getD 0 default)).2 ≠ 0 then (kindX C K (l.getD 0 default)).2 else mustX C K (l.getD 1 default) (kindX C K (l.getD 0 default)).1
def selsE (T : List PTab) (f : StF) : Int :=
  match tabAt T f.tb with
  | none => 9
  | some t => if f.join = [] then selE f (colsOf f.tb t.cols) (kindsOf t.cols) else
    match tabAt T f.join with
    | none => 9
    | some u => if f.join = f.tb then 12 else if onE (colsOf f.tb t.cols ++ colsOf f.join u.cols) (kindsOf t.cols ++ kindsOf u.cols) f.on ≠ 0 then onE (colsOf f.tb t.cols ++ colsOf f.join u.cols) (kindsOf t.cols ++ kindsOf u.cols) f.on
      else selE f (colsOf f.tb t.cols ++ colsOf f.join u.cols) (kindsOf t.cols ++ kindsOf u.cols)
def updE (t : PTab) (f : StF) : Int :=
  if colIx t.cols f.nm < 0 then 10 else if colIx t.cols f.nm = 0 ∨ (t.cols.getD (colIx t.cols f.nm).toNat default).ref ≠ [] then 24
  else if mustX (colsOf f.tb t.cols) (kindsOf t.cols) (f.vals.getD 0 default) (t.cols.getD (colIx t.cols f.nm).toNat default).kind ≠ 0 then mustX (colsOf f.tb t.cols) (kindsOf t.cols) (f.vals.getD 0 default) (t.cols.getD (colIx t.cols f.nm).toNat default).kind
  else whereX (colsOf f.tb t.cols) (kindsOf t.cols) f.wh
def flatE (T : List PTab) (D : List (List UInt8)) (f : StF) : Int :=
  if f.kind = 5 then (match tabAt T f.tb with | none => 9 | some t => insE t f)
  else if f.kind = 6 then selsE T f
  else if f.kind = 7 then (match tabAt T f.tb with | none => 9 | some t => updE t f)
  else if f.kind = 8 then (match tabAt T f.tb with | none => 9 | some t => whereX (colsOf f.tb t.cols) (kindsOf t.cols) f.wh)
  else if f.kind = 13 then (if f.nm ∈ D then 0 else 22)
  else 0
mutual
def checkE (T : List PTab) (D : List (List UInt8)) : XS → Int
  | .mk f _ inner => if listsOk f inner.length = false then 1 else if f.kind = 3 ∨ f.kind = 4 then checkH T D inner else flatE T D f
def checkH (T : List PTab) (D : List (List UInt8)) : List XS → Int
  | [] => 1
  | s :: _ => checkE T D s
end
theorem checkE_eq (T : List PTab) (D : List (List UInt8)) (s : XS) : checkE T D s = if listsOk s.f s.inner.length = false then 1 else if s.f.kind = 3 ∨ s.f.kind = 4 then checkE T D (s.inner.getD 0 default) else flatE T D s.f := by
  cases s with
  | mk f nv inner =>
    show checkE T D (.mk f nv inner) = if listsOk f inner.length = false then 1 else if f.kind = 3 ∨ f.kind = 4 then checkE T D (inner.getD 0 default) else flatE T D f
    rw [checkE]
    by_cases h : listsOk f inner.length = false
    · rw [if_pos h, if_pos h]
    · rw [if_neg h, if_neg h]
      by_cases hk : f.kind = 3 ∨ f.kind = 4
      · rw [if_pos hk, if_pos hk]
        cases inner with
        | nil =>
          exfalso; apply h; unfold listsOk
          rw [if_neg (by omega), if_neg (by omega), if_neg (by omega), if_pos hk]; rfl
        | cons s l => simp only [checkH, List.getD_cons_zero]
      · rw [if_neg hk, if_neg hk]
end Go.Gx

namespace Go.Gx
structure DTab where
  t : PTab
  cv : Value
  iv : Value
instance : Inhabited DTab := ⟨⟨⟨[], [], []⟩, .slice none 0 0, .slice none 0 0⟩⟩
def cellsT (d : DTab) : List Value := [.string (bs d.t.nm), d.cv, d.iv]
theorem el_dt {l : List DTab} {e : Int} {i : Nat} (he : e = (i : Int)) (h : i < l.length) : ∀ j u, (cellsT (l.getD i default))[j]? = some u → (l.flatMap cellsT)[e.toNat * 3 + j]? = some u :=
  el_flat (f := cellsT) (d := default) (by decide) (fun _ _ => rfl) he h
def TRd (w : World) (B : Nat) (d : DTab) : Prop := RdC w 0 B 3 d.cv d.t.cols.length (d.t.cols.flatMap cellsC) ∧ RdC w 0 B 1 d.iv d.t.idx.length (d.t.idx.map sv)
def TsRd (w : World) (B : Nat) (v : Value) (D : List DTab) : Prop := RdC w 0 B 3 v D.length (D.flatMap cellsT) ∧ ∀ d ∈ D, TRd w B d
section
variable {w w' : World} {B B' base b t e sz n : Nat} {D : List DTab} {v : Value} {row : Option Nat} {F G : Nat → Prop} {cs : List Value}
theorem TsRd.keep (h : TsRd w B v D) (E : w.grownBy w' row) (hne : ∀ k, row = some k → k < 0 ∨ B ≤ k) : TsRd w' B v D := ⟨h.1.keep E hne, fun a ha => ⟨(h.2 a ha).1.keep E hne, (h.2 a ha).2.keep E hne⟩⟩
theorem TsRd.keep0 (h : TsRd w B v D) (E : w.grownBy w' none) : TsRd w' B v D := h.keep E (by simp)
theorem TsRd.keepG (h : TsRd w B v D) (E : Gr w w' F) (hn : ∀ k, F k → k < 0 ∨ B ≤ k) : TsRd w' B v D := ⟨h.1.keepG E hn, fun a ha => ⟨(h.2 a ha).1.keepG E hn, (h.2 a ha).2.keepG E hn⟩⟩
theorem TsRd.keepO {u : Value} {ws : List Value} (h : TsRd w B v D) (O : Own w base e sz u n ws) (E : w.grownBy w' u.ownBlock) (hne : B ≤ base) : TsRd w' B v D :=
  h.keep E fun k hk => .inr (Nat.le_trans hne (O.lt k hk).1)
theorem TsRd.mono (h : TsRd w B v D) (hB : B ≤ B') : TsRd w B' v D := ⟨h.1.mono (Nat.le_refl _) hB, fun a ha => ⟨(h.2 a ha).1.mono (Nat.le_refl _) hB, (h.2 a ha).2.mono (Nat.le_refl _) hB⟩⟩
def TabsR (w : World) (base : Nat) (D : List DTab) (F : Nat → Prop) : Prop :=
  (∀ d ∈ D, Own w base 68 3 d.cv d.t.cols.length (d.t.cols.flatMap cellsC) ∧ Own w base 9 1 d.iv d.t.idx.length (d.t.idx.map sv)) ∧ ∀ x, F x ↔ ∃ d ∈ D, Bl d.cv x ∨ Bl d.iv x
theorem TabsR.lt (h : TabsR w base D F) : ∀ x, F x → base ≤ x ∧ x < w.heap.size := fun x hx => by
  obtain ⟨d, hd, hx⟩ := (h.2 x).1 hx
  rcases hx with hx | hx
  · exact (h.1 d hd).1.lt x hx
  · exact (h.1 d hd).2.lt x hx
theorem TabsR.keepG (h : TabsR w base D F) (E : Gr w w' G) (hd : Dj F G) : TabsR w' base D F :=
  ⟨fun d hm => ⟨(h.1 d hm).1.keepG E fun x hx => hd x ((h.2 x).2 ⟨d, hm, .inl hx⟩), (h.1 d hm).2.keepG E fun x hx => hd x ((h.2 x).2 ⟨d, hm, .inr hx⟩)⟩, h.2⟩
theorem TabsR.kz (h : TabsR w base D F) (E : w.grownBy w' none) : TabsR w' base D F := h.keepG (Gr.of0 E NoB) (fun _ _ h => h)
theorem TabsR.nil (w : World) (base : Nat) : TabsR w base [] NoB := ⟨fun _ h => (by cases h), fun x => ⟨fun h => h.elim, fun ⟨_, h, _⟩ => (by cases h)⟩⟩
theorem TabsR.mono {base' : Nat} (h : TabsR w base D F) (hb : base' ≤ base) : TabsR w base' D F := ⟨fun d hm => ⟨(h.1 d hm).1.mono hb, (h.1 d hm).2.mono hb⟩, h.2⟩
theorem TabsR.snoc {d : DTab} (h : TabsR w base D F) (h1 : Own w base 68 3 d.cv d.t.cols.length (d.t.cols.flatMap cellsC)) (h2 : Own w base 9 1 d.iv d.t.idx.length (d.t.idx.map sv)) : TabsR w base (D ++ [d]) (fun x => F x ∨ Bl d.cv x ∨ Bl d.iv x) := by
  refine ⟨fun a ha => ?_, fun x => ⟨fun hx => ?_, fun hx => ?_⟩⟩
  · rcases List.mem_append.1 ha with ha | ha
    · exact h.1 a ha
    · rw [List.mem_singleton] at ha; subst ha; exact ⟨h1, h2⟩
  · rcases hx with hx | hx
    · obtain ⟨a, ha, hx⟩ := (h.2 x).1 hx
      exact ⟨a, by simp [ha], hx⟩
    · exact ⟨d, by simp, hx⟩
  · obtain ⟨a, ha, hx⟩ := hx
    rcases List.mem_append.1 ha with ha | ha
    · exact .inl ((h.2 x).2 ⟨a, ha, hx⟩)
    · rw [List.mem_singleton] at ha; subst ha; exact .inr hx
theorem TabsR.notBx (h : TabsR w base D F) (B : Bx w b t cs) (h1 : t ≠ 68) (h2 : t ≠ 9) : ¬ F b := fun hf => by
  obtain ⟨d, hd, hf⟩ := (h.2 b).1 hf
  rcases hf with hf | hf
  · exact (h.1 d hd).1.neB B h1 hf
  · exact (h.1 d hd).2.neB B h2 hf
theorem TabsR.notOwn {base2 : Nat} (h : TabsR w base D F) (O : Own w base2 e sz v n cs) (h1 : e ≠ 68) (h2 : e ≠ 9) : Dj (Bl v) F := fun x hx hf => by
  obtain ⟨d, hd, hf⟩ := (h.2 x).1 hf
  rcases hf with hf | hf
  · exact O.notOwn (h.1 d hd).1 h1 x hx hf
  · exact O.notOwn (h.1 d hd).2 h2 x hx hf
theorem TabsR.rd (h : TabsR w base D F) (O : Own w base 55 3 v D.length (D.flatMap cellsT)) : TsRd w w.heap.size v D :=
  ⟨O.rdw.mono (Nat.zero_le _) (Nat.le_refl _), fun d hd => ⟨(h.1 d hd).1.rdw.mono (Nat.zero_le _) (Nat.le_refl _), (h.1 d hd).2.rdw.mono (Nat.zero_le _) (Nat.le_refl _)⟩⟩
end
theorem one_flat {α : Type} {f : α → List Value} (h : ∀ x, (f x).all Value.oneCell' = true) (l : List α) : (l.flatMap f).all Value.oneCell' = true := by
  rw [List.all_eq_true]; intro v hv
  obtain ⟨x, _, hx⟩ := List.mem_flatMap.1 hv
  exact (List.all_eq_true.1 (h x)) v hx
theorem one_pc (l : List PCol) : (l.flatMap cellsC).all Value.oneCell' = true := one_flat (fun _ => rfl) l
def ixOf {α : Type} (p : α → Bool) (L : List α) : Int := match L.findIdx? p with | some i => i | none => -1
theorem ixOf_hit {α : Type} [Inhabited α] {p : α → Bool} {L : List α} {i : Nat} (hi : i < L.length) (h : ∀ j, j < i → p (L.getD j default) = false) (hx : p (L.getD i default) = true) : ixOf p L = i := by
  unfold ixOf
  have : L.findIdx? p = some i := by
    rw [List.findIdx?_eq_some_iff_getElem]
    refine ⟨hi, by simpa [List.getD_eq_getElem?_getD, hi] using hx, fun j hj => ?_⟩
    have := h j hj
    simpa [List.getD_eq_getElem?_getD, show j < L.length by omega] using this
  rw [this]
theorem ixOf_none {α : Type} [Inhabited α] {p : α → Bool} {L : List α} {i : Nat} (hi : L.length ≤ i) (h : ∀ j, j < i → p (L.getD j default) = false) : ixOf p L = -1 := by
  unfold ixOf
  have : L.findIdx? p = none := by
    rw [List.findIdx?_eq_none_iff]
    intro x hx
    obtain ⟨j, hj, rfl⟩ := List.mem_iff_getElem.1 hx
    have := h j (by omega)
    simpa [List.getD_eq_getElem?_getD, hj] using this
  rw [this]
theorem ixOf_cases {α : Type} [Inhabited α] (p : α → Bool) (L : List α) : (ixOf p L = -1 ∧ L.find? p = none) ∨ ∃ i : Nat, ixOf p L = i ∧ i < L.length ∧ p (L.getD i default) = true ∧ L.find? p = some (L.getD i default) := by
  unfold ixOf
  cases h : L.findIdx? p with
  | none =>
    refine .inl ⟨rfl, ?_⟩
    rw [List.findIdx?_eq_none_iff] at h
    exact List.find?_eq_none.2 fun x hx => by rw [h x hx]; simp
  | some i =>
    rw [List.findIdx?_eq_some_iff_getElem] at h
    obtain ⟨hi, hx, hn⟩ := h
    have e : L.getD i default = L[i] := by simp [List.getD_eq_getElem?_getD, hi]
    refine .inr ⟨i, rfl, hi, by rw [e]; exact hx, ?_⟩
    rw [e, List.find?_eq_some_iff_getElem]
    exact ⟨hx, i, hi, rfl, fun j hj => by simp [hn j hj]⟩
def LookR (w : World) (base l : Nat) (tv vv : Value) (C : List PItm) (K : List Int) (F : Nat → Prop) : Prop :=
  ∃ cv kv, base ≤ l ∧ Bx w l 92 [tv, vv, cv, kv] ∧ Own w base 63 3 cv C.length (C.flatMap cellsI) ∧ Own w base 3 1 kv K.length (K.map (Value.int .i64)) ∧ ∀ x, F x ↔ x = l ∨ Bl cv x ∨ Bl kv x
section
variable {w w' : World} {base b t e sz n l : Nat} {C : List PItm} {K : List Int} {v tv vv : Value} {F G : Nat → Prop} {cs : List Value}
theorem LookR.lt (h : LookR w base l tv vv C K F) : ∀ x, F x → base ≤ x ∧ x < w.heap.size := fun x hx => by
  obtain ⟨cv, kv, h0, hx', O, P, hF⟩ := h
  rcases (hF x).1 hx with rfl | hx | hx
  · exact ⟨h0, hx'.lt⟩
  · exact O.lt x hx
  · exact P.lt x hx
theorem LookR.keepG (h : LookR w base l tv vv C K F) (E : Gr w w' G) (hd : Dj F G) : LookR w' base l tv vv C K F := by
  obtain ⟨cv, kv, h0, hx, O, P, hF⟩ := h
  exact ⟨cv, kv, h0, hx.keepG E (hd l ((hF l).2 (.inl rfl))), O.keepG E fun x hx => hd x ((hF x).2 (.inr (.inl hx))), P.keepG E fun x hx => hd x ((hF x).2 (.inr (.inr hx))), hF⟩
theorem LookR.kz (h : LookR w base l tv vv C K F) (E : w.grownBy w' none) : LookR w' base l tv vv C K F := h.keepG (Gr.of0 E NoB) (fun _ _ h => h)
theorem LookR.notBx (h : LookR w base l tv vv C K F) (B : Bx w b t cs) (h1 : t ≠ 92) (h2 : t ≠ 63) (h3 : t ≠ 3) : ¬ F b := fun hf => by
  obtain ⟨cv, kv, h0, hx, O, P, hF⟩ := h
  rcases (hF b).1 hf with rfl | hf | hf
  · have := B.symm.trans hx; simp at this; exact h1 this.2
  · exact O.neB B h2 hf
  · exact P.neB B h3 hf
theorem LookR.notOwn {base2 : Nat} (h : LookR w base l tv vv C K F) (O2 : Own w base2 e sz v n cs) (h1 : e ≠ 92) (h2 : e ≠ 63) (h3 : e ≠ 3) : Dj (Bl v) F := fun x hx2 hf => by
  obtain ⟨cv, kv, h0, hx, O, P, hF⟩ := h
  rcases (hF x).1 hf with rfl | hf | hf
  · exact O2.neB hx (fun e => h1 e.symm) hx2
  · exact O2.notOwn O h2 x hx2 hf
  · exact O2.notOwn P h3 x hx2 hf
end
end Go.Gx

namespace Go.Gx
open Go.RowKit
section
variable {P : Program} {Q : Exit → Act → World → Prop} {a : Act} {w : World} {l : List (Nat × Value)} {ops : Array Oper} {rest : List Oper}
variable {d ty xt i : Nat} {p : String} {x : Operand} {v v0 : Value}
theorem op_fieldv {af} (hx : (putsL a l).eval x = v0) (hf : (Instr.field xt v0 i).run P w = .ok v w) (h : wpList P ops Q rest (putsL a ((d, v) :: l)) w) :
    wpList P ops Q (⟨some d, .field xt x i, ty, p, af, none⟩ :: rest) (putsL a l) w :=
  op_gen rfl (by simp [execOp, hx, hf]) h
end
end Go.Gx
namespace Go.Gx
open Go.RowKit
end Go.Gx

namespace Go.Gx
open Go.RowKit
section
variable {P : Program} {ol : List Oper} {Q : Exit → Act → World → Prop} {Φ : Nat → Value → World → Prop} {C : Nat → Value → World → Prop} {ch : Chain} {R : World → World → Prop} {a0 : Act} {N : Nat}
end
section
variable {P : Program} {ol : List Oper} {Q : Exit → Act → World → Prop} {Φ : Nat → Value → Prop} {G : World → Prop} {a0 : Act} {N : Nat}
end
end Go.Gx

namespace Go.Gx
open Go.RowKit
section
variable {P : Program} {ol : List Oper} {Q : Exit → Act → World → Prop} {E : Type} {Φ : E → Nat → Value → Prop} {C : E → Nat → World → Prop} {ch : Chain} {a0 : Act} {N : Nat}
def ObNE (P : Program) (ol : List Oper) (Φ : E → Nat → Value → Prop) (C : E → Nat → World → Prop) (a0 : Act) (N : Nat) (i : Nat) (o : Oper) : Prop :=
  ∀ (e : E) (a : Act) (w : World) (c : Nat), a.tmps.size = N → C e c w → (∀ t, safeB ol i t = true → a.tmps.getD t undef = a0.tmps.getD t undef) → (∀ j oj d, depB ol i j = true → ol[j]? = some oj → oj.dst = some d → Φ e j (a.tmps.getD d undef)) →
    wpList P ol.toArray (fun ex a' w' => ex = .normal ∧ (∃ d v, o.dst = some d ∧ a' = putsL a [(d, v)] ∧ Φ e i v) ∧ w.grownBy w' none) [o] (putsL a []) w
def ObCE (P : Program) (ol : List Oper) (Φ : E → Nat → Value → Prop) (C : E → Nat → World → Prop) (a0 : Act) (N : Nat) (c i : Nat) (o : Oper) : Prop :=
  ∀ (e : E) (a : Act) (w : World), a.tmps.size = N → (∀ t, safeB ol i t = true → a.tmps.getD t undef = a0.tmps.getD t undef) → (∀ j oj d, depB ol i j = true → ol[j]? = some oj → oj.dst = some d → Φ e j (a.tmps.getD d undef)) → C e c w →
    wpList P ol.toArray (fun ex a' w' => ex = .normal ∧ ∃ e', (∀ j u, Φ e j u → Φ e' j u) ∧ ((o.dst = none ∧ a' = a) ∨ ∃ d v, o.dst = some d ∧ a' = putsL a [(d, v)] ∧ Φ e' i v) ∧ C e' (c + 1) w') [o] (putsL a []) w
theorem region_env_steps (hlex : lexB' ol = true) (hdn : dstNB ol N = true) (hdst : dstsB ol = true) (hch : ch.okB ol = true) (w0 : World)
    (hC : ∀ e c w1 w2, w1.grownBy w2 none → C e c w1 → C e c w2)
    (obN : ∀ i o, ol[i]? = some o → ch.has i = false → ObNE P ol Φ C a0 N i o) (obC : ∀ c i o, ch.ops[c]? = some i → ol[i]? = some o → ObCE P ol Φ C a0 N c i o)
    (fin : ∀ a w e, RInv ol (fun j u _ => Φ e j u) (fun c _ w => C e c w) ch a0 N w0 (fun _ _ => True) (Array.replicate ol.length true) ch.ops.length a w → Q .normal a w) :
    ∀ (fuel : Nat) (listed : Array Bool) (c : Nat) (a : Act) (w : World) (e : E), RInv ol (fun j u _ => Φ e j u) (fun c _ w => C e c w) ch a0 N w0 (fun _ _ => True) listed c a w → (List.range ol.length).countP (fun i => !listed.getD i true) ≤ fuel → wpAny P .any ol.toArray Q fuel listed a w := by
  have hch' := hch
  simp only [Chain.okB, Bool.and_eq_true] at hch'
  obtain ⟨⟨⟨hc1, hc2⟩, hc3⟩, hc4⟩ := hch'
  have done : ∀ (listed : Array Bool) (c : Nat) (a : Act) (w : World) (e : E), RInv ol (fun j u _ => Φ e j u) (fun c _ w => C e c w) ch a0 N w0 (fun _ _ => True) listed c a w → Region.ready .any ol.toArray listed = [] → Q .normal a w := by
    intro listed c a w ee I hr
    have hall : ∀ i, i < ol.length → listed.getD i true = true := by
      intro i
      induction i using Nat.strongRecOn with
      | _ i ih =>
        intro hi
        by_cases hq : listed.getD i true = true
        · exact hq
        · exfalso
          have hm : i ∈ Region.ready .any ol.toArray listed := by
            rw [mem_ready]
            refine ⟨by simpa using hq, ol[i], by simp [hi], fun e he hb => ?_⟩
            have h1 := List.all_eq_true.1 hlex i (by simp [hi])
            simp only [List.getElem?_eq_getElem hi, Array.all_eq_true_iff_forall_mem, Bool.or_eq_true, Bool.not_eq_true', Nat.blt_eq] at h1
            have h2 := (h1 e he).resolve_left (by simp [hb])
            exact getD_true_lt (ih e.on h2 (by omega)) (by rw [I.lsize]; omega)
          rw [hr] at hm
          cases hm
    have hl : listed = Array.replicate ol.length true := by
      apply Array.ext
      · simp [I.lsize]
      · intro i h1 h2
        have := hall i (by simpa using h2)
        simp [Array.getD_eq_getD_getElem?, h1] at this
        simp [this]
    have hcc : c = ch.ops.length := by
      rcases Nat.lt_or_ge c ch.ops.length with h | h
      · exfalso
        have h1 := (I.chain c ch.ops[c] (by simp [h])).1 (hall _ (by
          have := List.all_eq_true.1 hc3 ch.ops[c] (List.getElem_mem h)
          simpa [Nat.blt_eq] using this))
        omega
      · exact Nat.le_antisymm I.cle h
    subst hl; subst hcc
    exact fin a w ee I
  intro fuel
  induction fuel with
  | zero =>
    intro listed c a w ee I hcnt
    have hr : Region.ready .any ol.toArray listed = [] := by
      rw [List.eq_nil_iff_forall_not_mem]
      intro i hi
      obtain ⟨h1, o, ho, _⟩ := mem_ready.1 hi
      have hlt : i < ol.length := by simpa using (Array.getElem?_eq_some_iff.1 ho).1
      have hz : (List.range ol.length).countP (fun i => !listed.getD i true) = 0 := by omega
      rw [List.countP_eq_zero] at hz
      exact hz i (by simp [hlt]) (by simp [h1])
    exact ⟨hr, done listed c a w ee I hr⟩
  | succ fuel ih =>
    intro listed c a w ee I hcnt
    refine ⟨fun hr => done listed c a w ee I hr, fun i hi => ?_⟩
    obtain ⟨hun, o, ho, hwait⟩ := mem_ready.1 hi
    have ho' : ol[i]? = some o := by simpa using ho
    have hlt : i < ol.length := (List.getElem?_eq_some_iff.1 ho').1
    have hls : i < listed.size := by rw [I.lsize]; exact hlt
    have hcnt' : (List.range ol.length).countP (fun j => !(listed.setIfInBounds i true).getD j true) ≤ fuel := by
      have : (List.range ol.length).countP (fun j => !(listed.setIfInBounds i true).getD j true) < (List.range ol.length).countP (fun j => !listed.getD j true) := by
        refine countP_lt _ _ (fun y hy => ?_) _ i (by simp [hlt]) (by simp [hun]) (by simp [Array.getD_eq_getD_getElem?, hls])
        by_cases hiy : i = y
        · subst hiy; simp [Array.getD_eq_getD_getElem?, hls] at hy
        · rwa [getD_set_ne true hiy] at hy
      omega
    have hbase : ∀ t, safeB ol i t = true → a.tmps.getD t undef = a0.tmps.getD t undef := by
      intro t ht
      refine I.base t fun j oj hj hlj hd => ?_
      have h1 := List.all_eq_true.1 ht oj (List.mem_of_getElem? hj)
      simp only [Bool.or_eq_true, bne_iff_ne, ne_eq, Array.any_eq_true, Bool.and_eq_true, beq_iff_eq] at h1
      rcases h1 with h1 | ⟨q, hq, h1, h2⟩
      · exact h1 hd
      · have := getD_of_false (I.closed j oj hj hlj _ (Array.getElem_mem hq) h2)
        rw [h1, hun] at this
        cases this
    have hdep : ∀ j oj d, depB ol i j = true → ol[j]? = some oj → oj.dst = some d → Φ ee j (a.tmps.getD d undef) := by
      intro j oj d hj hoj hd
      obtain ⟨e, he, h1, h2⟩ := depB_spec ho' hj
      exact I.phi j oj d hoj (getD_of_false (by rw [← h1]; exact hwait e he h2)) hd
    have hset : ∀ j, j ≠ i → (listed.setIfInBounds i true).getD j true = listed.getD j true := fun j hj => getD_set_ne true (Ne.symm hj)
    have hseti : (listed.setIfInBounds i true).getD i true = true := by simp [Array.getD_eq_getD_getElem?, hls]
    have hclosed : ∀ j oj, ol[j]? = some oj → (listed.setIfInBounds i true).getD j true = true → ∀ e ∈ oj.after, Region.binds .any e = true → (listed.setIfInBounds i true).getD e.on false = true := by
      intro j oj hoj hlj e he hb
      refine getD_set_true ?_
      by_cases hji : j = i
      · subst hji
        rw [ho'] at hoj; cases hoj
        exact hwait e he hb
      · rw [hset j hji] at hlj
        exact I.closed j oj hoj hlj e he hb
    have hne : ∀ j oj d, ol[j]? = some oj → j ≠ i → o.dst = some d → oj.dst ≠ some d := by
      intro j oj d hoj hji hd hd'
      have hj : j < ol.length := (List.getElem?_eq_some_iff.1 hoj).1
      have h1 := List.all_eq_true.1 (List.all_eq_true.1 hdst i (by simp [hlt])) j (by simp [hj])
      simp only [ho', hoj, Bool.or_eq_true, beq_iff_eq, bne_iff_ne, ne_eq] at h1
      rcases h1 with h1 | h1 | h1
      · exact hji h1.symm
      · exact h1 (by rw [hd, hd'])
      · rw [hd] at h1; cases h1
    -- what is left of the frame, behind a value in slot d
    have hframe : ∀ d v (e' : E), o.dst = some d → (∀ j u, Φ ee j u → Φ e' j u) → Φ e' i v → 
        (∀ t, (∀ j oj, ol[j]? = some oj → (listed.setIfInBounds i true).getD j true = true → oj.dst ≠ some t) → (putsL a [(d, v)]).tmps.getD t undef = a0.tmps.getD t undef) ∧
        (∀ j oj d', ol[j]? = some oj → (listed.setIfInBounds i true).getD j true = true → oj.dst = some d' → Φ e' j ((putsL a [(d, v)]).tmps.getD d' undef)) := by
      intro d v e' hd hR hv
      have hdN : d < a.tmps.size := by
        have h1 := List.all_eq_true.1 hdn o (List.mem_of_getElem? ho')
        simp only [hd, Nat.blt_eq] at h1
        rw [I.size]; exact h1
      refine ⟨fun t ht => ?_, fun j oj d' hoj hlj hd' => ?_⟩
      · have hdt : d ≠ t := fun e => ht i o ho' hseti (by rw [hd, e])
        rw [get_put_ne hdt]
        refine I.base t fun j oj hoj hlj => ?_
        by_cases hji : j = i
        · subst hji; rw [hun] at hlj; cases hlj
        · exact ht j oj hoj (by rw [hset j hji]; exact hlj)
      · by_cases hji : j = i
        · subst hji
          rw [ho'] at hoj; cases hoj
          rw [hd] at hd'; cases hd'
          rw [get_put_eq hdN]
          exact hv
        · rw [hset j hji] at hlj
          have : d ≠ d' := fun e => hne j oj d hoj hji hd (by rw [hd', e])
          rw [get_put_ne this]
          exact hR j _ (I.phi j oj d' hoj hlj hd')
    by_cases hin : ch.has i = true
    · have hmem : i ∈ ch.ops := by simpa [Chain.has] using hin
      obtain ⟨c0, hc0, hci⟩ := List.getElem_of_mem hmem
      have hci' : ch.ops[c0]? = some i := by simp [hc0, hci]
      have hcc : c0 = c := by
        have h1 : ¬ c0 < c := fun h => by
          have := (I.chain c0 i hci').2 h
          rw [hun] at this; cases this
        rcases Nat.lt_or_ge c c0 with h2 | h2
        · exfalso
          have h3 := List.all_eq_true.1 hc1 c0 (by simp [hc0])
          have hz : (c0 == 0) = false := by simp; omega
          have hp : ch.ops.getD (c0 - 1) 0 = ch.ops[c0 - 1] := by simp [List.getD_eq_getElem?_getD, show c0 - 1 < ch.ops.length by omega]
          have hq : ch.ops.getD c0 0 = i := by simp [List.getD_eq_getElem?_getD, hc0, hci]
          rw [hz, hp, hq, Bool.false_or] at h3
          obtain ⟨e, he, h4, h5⟩ := depB_spec ho' h3
          have h6 := getD_of_false (hwait e he h5)
          rw [h4] at h6
          have := (I.chain (c0 - 1) ch.ops[c0 - 1] (by simp [show c0 - 1 < ch.ops.length by omega])).1 h6
          omega
        · omega
      subst hcc
      refine wp_one (by simpa using ho') (obC c0 i o hci' ho' ee a w I.size hbase hdep I.chainC) fun a' w' h => ?_
      obtain ⟨e', hm, h1, h2⟩ := h
      have hchain : ∀ m i', ch.ops[m]? = some i' → ((listed.setIfInBounds i true).getD i' true = true ↔ m < c0 + 1) := by
        intro m i' hm
        by_cases hii : i' = i
        · subst hii
          have : m = c0 := by
            have hnd : ch.ops.Nodup := of_decide_eq_true hc4
            have hmlt : m < ch.ops.length := (List.getElem?_eq_some_iff.1 hm).1
            exact (List.getElem?_inj hmlt hnd).1 (by rw [hm, hci'])
          exact ⟨fun _ => by omega, fun _ => hseti⟩
        · rw [hset i' hii, I.chain m i' hm]
          refine ⟨fun h => by omega, fun h => ?_⟩
          rcases Nat.lt_or_ge m c0 with h' | h'
          · exact h'
          · have : m = c0 := by omega
            subst this
            rw [hci'] at hm; exact absurd (Option.some.inj hm).symm hii
      refine ih _ (c0 + 1) a' w' e' ?_ hcnt'
      rcases h1 with ⟨hd, rfl⟩ | ⟨d, v, hd, rfl, hv⟩
      · refine ⟨I.size, I.defers, fun t ht => ?_, fun j oj d' hoj hlj hd' => ?_, hclosed, by simp [I.lsize], by omega, hchain, h2, trivial⟩
        · refine I.base t fun j oj hoj hlj => ?_
          by_cases hji : j = i
          · subst hji; rw [hun] at hlj; cases hlj
          · exact ht j oj hoj (by rw [hset j hji]; exact hlj)
        · by_cases hji : j = i
          · subst hji
            rw [ho'] at hoj; cases hoj
            rw [hd] at hd'; cases hd'
          · rw [hset j hji] at hlj
            exact hm j _ (I.phi j oj d' hoj hlj hd')
      · obtain ⟨f1, f2⟩ := hframe d v e' hd hm hv
        exact ⟨by rw [putsL_size, I.size], by rw [putsL_defers, I.defers], f1, f2, hclosed, by simp [I.lsize], by omega, hchain, h2, trivial⟩
    · have hin' : ch.has i = false := by simpa using hin
      refine wp_one (by simpa using ho') (obN i o ho' hin' ee a w c I.size I.chainC hbase hdep) fun a' w' h => ?_
      obtain ⟨⟨d, v, hd, rfl, hv⟩, hg⟩ := h
      obtain ⟨f1, f2⟩ := hframe d v ee hd (fun _ _ h => h) hv
      refine ih _ c _ w' ee ⟨by rw [putsL_size, I.size], by rw [putsL_defers, I.defers], f1, f2, hclosed, by simp [I.lsize], I.cle, ?_, hC _ _ w w' hg I.chainC, trivial⟩ hcnt'
      · intro m i' hm
        have hii : i' ≠ i := by
          rintro rfl
          have : ch.has i' = true := by simpa [Chain.has] using List.mem_of_getElem? hm
          rw [hin'] at this; cases this
        rw [hset i' hii]
        exact I.chain m i' hm
end

section
variable {P : Program} {ol : List Oper} {Q : Exit → Act → World → Prop} {ops : List Nat} {φ : Nat → Value → Prop} {G : World → Prop} {a0 : Act} {N : Nat}
def PhE (ops : List Nat) (φ : Nat → Value → Prop) (e : List Value) (j : Nat) (u : Value) : Prop := (∀ c : Nat, ops[c]? = some j → e[c]? = some u) ∧ (ops.contains j = false → φ j u)
theorem PhE.mono {e : List Value} {v : Value} {j : Nat} {u : Value} (h : PhE ops φ e j u) : PhE ops φ (e ++ [v]) j u :=
  ⟨fun c hc => by have h1 := h.1 c hc; have hl := (List.getElem?_eq_some_iff.1 h1).1; rw [List.getElem?_append_left hl]; exact h1, h.2⟩
theorem PhE.light {j : Nat} {e : List Value} {u : Value} (hh : ops.contains j = false) (h : φ j u) : PhE ops φ e j u :=
  ⟨fun c hc => by have : ops.contains j = true := by simpa using List.mem_of_getElem? hc
                  exact absurd (this.symm.trans hh) (by decide), fun _ => h⟩
def KE (P : Program) (ol : List Oper) (ops : List Nat) (φ : Nat → Value → Prop) (G : World → Prop) (a0 : Act) (N : Nat) (Q : Exit → Act → World → Prop) : List Nat → List Value → World → Prop
  | [], e, w => ∀ w1, w.grownBy w1 none → ∀ a', a'.tmps.size = N → a'.defers = a0.defers → (∀ t, (ol.all fun o => o.dst != some t) = true → a'.tmps.getD t undef = a0.tmps.getD t undef) →
      (∀ j oj d, ol[j]? = some oj → oj.dst = some d → PhE ops φ e j (a'.tmps.getD d undef)) → Q .normal (putsL a' []) w1
  | i :: r, e, w => ∀ w1, w.grownBy w1 none → G w1 → ∀ a, a.tmps.size = N → (∀ t, safeB ol i t = true → a.tmps.getD t undef = a0.tmps.getD t undef) → (∀ j oj d, depB ol i j = true → ol[j]? = some oj → oj.dst = some d → PhE ops φ e j (a.tmps.getD d undef)) →
      ∀ o, ol[i]? = some o → wpList P ol.toArray (fun ex a' w' => ex = .normal ∧ ∃ e', (∀ j u, PhE ops φ e j u → PhE ops φ e' j u) ∧ ((o.dst = none ∧ a' = a) ∨ ∃ d v, o.dst = some d ∧ a' = putsL a [(d, v)] ∧ PhE ops φ e' i v) ∧ (e'.length = e.length + 1 ∧ KE P ol ops φ G a0 N Q r e' w' ∧ G w')) [o] (putsL a []) w1
theorem KE.stable : ∀ {rs : List Nat} {e : List Value} {w w2 : World}, KE P ol ops φ G a0 N Q rs e w → w.grownBy w2 none → KE P ol ops φ G a0 N Q rs e w2
  | [], _, _, _, h, E => fun w1 E1 => h w1 (grown_trans E E1)
  | _ :: _, _, _, _, h, E => fun w1 E1 => h w1 (grown_trans E E1)
def ObE (P : Program) (ol : List Oper) (ops : List Nat) (φ : Nat → Value → Prop) (G : World → Prop) (a0 : Act) (N : Nat) (i : Nat) (o : Oper) : Prop :=
  ∀ (e : List Value) (a : Act) (w : World), a.tmps.size = N → G w → (∀ t, safeB ol i t = true → a.tmps.getD t undef = a0.tmps.getD t undef) → (∀ j oj d, depB ol i j = true → ol[j]? = some oj → oj.dst = some d → PhE ops φ e j (a.tmps.getD d undef)) →
    wpList P ol.toArray (fun ex a' w' => ex = .normal ∧ (∃ d v, o.dst = some d ∧ a' = putsL a [(d, v)] ∧ PhE ops φ e i v) ∧ w.grownBy w' none) [o] (putsL a []) w
def ObEs (P : Program) (ol : List Oper) (ops : List Nat) (φ : Nat → Value → Prop) (G : World → Prop) (a0 : Act) (N : Nat) : Nat → List Oper → Prop
  | _, [] => True
  | i, o :: r => (ops.contains i = false → ObE P ol ops φ G a0 N i o) ∧ ObEs P ol ops φ G a0 N (i + 1) r
theorem ObEs.nil {i : Nat} : ObEs P ol ops φ G a0 N i [] := trivial
theorem ObEs.cons {i : Nat} {o : Oper} {r : List Oper} (h : ObE P ol ops φ G a0 N i o) (h' : ObEs P ol ops φ G a0 N (i + 1) r) : ObEs P ol ops φ G a0 N i (o :: r) := ⟨fun _ => h, h'⟩
theorem ObEs.pass {i : Nat} {o : Oper} {r : List Oper} (hh : ops.contains i = true) (h' : ObEs P ol ops φ G a0 N (i + 1) r) : ObEs P ol ops φ G a0 N i (o :: r) := ⟨fun h => absurd (hh.symm.trans h) (by decide), h'⟩
theorem ObEs.getx : ∀ {l : List Oper} {i : Nat}, ObEs P ol ops φ G a0 N i l → ∀ j o, l[j]? = some o → ops.contains (i + j) = false → ObE P ol ops φ G a0 N (i + j) o
  | [], _, _, j, o, h, _ => by simp at h
  | o' :: r, i, h, 0, o, hj, hs => by simp at hj; subst hj; exact h.1 hs
  | o' :: r, i, h, j + 1, o, hj, hs => by
    have := ObEs.getx h.2 j o (by simpa using hj) (by rwa [show i + 1 + j = i + (j + 1) by omega])
    rwa [show i + 1 + j = i + (j + 1) by omega] at this
theorem any_env (ops : List Nat) (hlex : lexB' ol = true) (hdn : dstNB ol N = true) (hdst : dstsB ol = true) (hch : (⟨ops, fun _ => N⟩ : Chain).okB ol = true)
    {l : List (Nat × Value)} {w : World} (hN : a0.tmps.size = N) (hG : ∀ w1 w2, w1.grownBy w2 none → G w1 → G w2) (g0 : G w) (obL : ObEs P ol ops φ G (putsL a0 l) N 0 ol) (hdf : (putsL a0 l).defers = a0.defers)
    (main : KE P ol ops φ G (putsL a0 l) N Q ops [] w) : RegAny P ol Q (putsL a0 l) w := by
  have hnd : ops.Nodup := by
    have h := hch; simp only [Chain.okB, Bool.and_eq_true] at h; exact of_decide_eq_true h.2
  have hd : w.grownBy { w with drawn := w.drawn + 1 } none := ⟨rfl, rfl, rfl, Nat.le_refl _, fun _ _ _ => rfl⟩
  have I : RInv ol (fun j u _ => PhE ops φ [] j u) (fun c _ w => ([] : List Value).length = c ∧ KE P ol ops φ G (putsL a0 l) N Q (ops.drop c) [] w ∧ G w) ⟨ops, fun _ => N⟩ (putsL a0 l) N w (fun _ _ => True) (Array.replicate ol.length false) 0 (putsL a0 l) { w with drawn := w.drawn + 1 } := by
    refine ⟨slN hN, rfl, fun _ _ => rfl, fun j o d hj hl => ?_, fun j o hj hl => ?_, by simp, Nat.zero_le _, fun m i hm => ?_, ⟨rfl, main.stable hd, hG _ _ hd g0⟩, trivial⟩
    · have : j < ol.length := (List.getElem?_eq_some_iff.1 hj).1
      simp [Array.getD_eq_getD_getElem?, this] at hl
    · have : j < ol.length := (List.getElem?_eq_some_iff.1 hj).1
      simp [Array.getD_eq_getD_getElem?, this] at hl
    · have h3 : i < ol.length := by
        have hch' := hch
        simp only [Chain.okB, Bool.and_eq_true] at hch'
        have := List.all_eq_true.1 hch'.1.2 i (List.mem_of_getElem? hm)
        simpa [Nat.blt_eq] using this
      simp [Array.getD_eq_getD_getElem?, h3]
  have := region_env_steps (P := P) (Q := Q) (E := List Value) (Φ := fun e j u => PhE ops φ e j u) (C := fun e c w => e.length = c ∧ KE P ol ops φ G (putsL a0 l) N Q (ops.drop c) e w ∧ G w) (ch := ⟨ops, fun _ => N⟩) hlex hdn hdst hch w
    (fun e c w1 w2 E1 h => ⟨h.1, h.2.1.stable E1, hG _ _ E1 h.2.2⟩)
    (fun i o hi hh e a w1 c h1 h2 h3 h4 => by
      have hh' : ops.contains i = false := hh
      have h5 := ObEs.getx obL i o hi (by rw [Nat.zero_add]; exact hh') e a w1 h1 h2.2.2 (by rw [Nat.zero_add]; exact h3) (by rw [Nat.zero_add]; exact h4)
      rw [Nat.zero_add] at h5; exact h5)
    (fun c i o hc hi e a w1 h1 h2 h3 h4 => by
      obtain ⟨hl, hk, hg⟩ := h4
      have hdr : ops.drop c = i :: ops.drop (c + 1) := by
        have hlt : c < ops.length := (List.getElem?_eq_some_iff.1 hc).1
        rw [List.drop_eq_getElem_cons hlt, (List.getElem?_eq_some_iff.1 hc).2]
      rw [hdr] at hk
      subst hl
      exact hk w1 (grown_refl _ _) hg a h1 h2 h3 o hi)
    (fun a' w' e J => by
      have hk := J.chainC.2.1
      rw [List.drop_of_length_le (Nat.le_refl _)] at hk
      exact hk w' (grown_refl _ _) a' J.size (J.defers) (fun t ht => J.base t fun j o hj _ hd' => by
        have := List.all_eq_true.1 ht o (List.mem_of_getElem? hj)
        simp [hd'] at this) (fun j oj d hj hd' => J.phi j oj d hj (by
        have : j < ol.length := (List.getElem?_eq_some_iff.1 hj).1
        simp [Array.getD_eq_getD_getElem?, this]) hd'))
    ol.length (Array.replicate ol.length false) 0 (putsL a0 l) _ [] I (Nat.le_trans (List.countP_le_length) (by simp))
  exact this
theorem ke_end {o : Oper} {i d : Nat} {v : Value} {a : Act} {w : World} {e : List Value} {r : List Nat} (hi : ops[e.length]? = some i) (hnd : ops.Nodup) (hd : o.dst = some d) (g : G w) (h : KE P ol ops φ G a0 N Q r (e ++ [v]) w) :
    wpList P ol.toArray (fun ex a' w' => ex = .normal ∧ ∃ e', (∀ j u, PhE ops φ e j u → PhE ops φ e' j u) ∧ ((o.dst = none ∧ a' = a) ∨ ∃ d v, o.dst = some d ∧ a' = putsL a [(d, v)] ∧ PhE ops φ e' i v) ∧ (e'.length = e.length + 1 ∧ KE P ol ops φ G a0 N Q r e' w' ∧ G w')) [] (putsL a [(d, v)]) w :=
  ⟨rfl, e ++ [v], fun _ _ h => h.mono, .inr ⟨d, v, hd, rfl, fun c' hc' => by
    have : c' = e.length := (List.getElem?_inj (List.getElem?_eq_some_iff.1 hc').1 hnd).1 (by rw [hc', hi])
    subst this; simp, fun hh => by
    have : ops.contains i = true := by simpa using List.mem_of_getElem? hi
    exact absurd (this.symm.trans hh) (by decide)⟩, by simp, h, g⟩
theorem obE_end {o : Oper} {i d : Nat} {v : Value} {a : Act} {w : World} {e : List Value} (hh : ops.contains i = false) (hd : o.dst = some d) (hv : φ i v) :
    wpList P ol.toArray (fun ex a' w' => ex = .normal ∧ (∃ d v, o.dst = some d ∧ a' = putsL a [(d, v)] ∧ PhE ops φ e i v) ∧ w.grownBy w' none) [] (putsL a [(d, v)]) w := ⟨rfl, ⟨d, v, hd, rfl, PhE.light hh hv⟩, grown_refl _ _⟩
end
end Go.Gx

namespace Go.Gx
open Go.RowKit
section
variable {P : Program} {ol : List Oper} {Q : Exit → Act → World → Prop} {bigs : List Nat} {φ : Nat → Value → Prop} {G : World → Prop} {a0 : Act} {N : Nat}
def PhT (bigs : List Nat) (φ : Nat → Value → Prop) (e : List (Nat × Value)) (j : Nat) (u : Value) : Prop := (bigs.contains j = true → e.lookup j = some u) ∧ (bigs.contains j = false → φ j u)
theorem PhT.mono {e : List (Nat × Value)} {i j : Nat} {v u : Value} (hij : j ≠ i) (h : PhT bigs φ e j u) : PhT bigs φ ((i, v) :: e) j u :=
  ⟨fun hb => by rw [List.lookup_cons, beq_false_of_ne hij]; exact h.1 hb, h.2⟩
structure TInv (ol : List Oper) (bigs : List Nat) (φ : Nat → Value → Prop) (a0 : Act) (N : Nat) (listed : Array Bool) (todo : List Nat) (e : List (Nat × Value)) (a : Act) : Prop where
  size : a.tmps.size = N
  defers : a.defers = a0.defers
  base : ∀ t, (∀ j o, ol[j]? = some o → listed.getD j true = true → o.dst ≠ some t) → a.tmps.getD t undef = a0.tmps.getD t undef
  phi : ∀ j o d, ol[j]? = some o → listed.getD j true = true → o.dst = some d → PhT bigs φ e j (a.tmps.getD d undef)
  closed : ∀ j o, ol[j]? = some o → listed.getD j true = true → ∀ x ∈ o.after, Region.binds .any x = true → listed.getD x.on false = true
  lsize : listed.size = ol.length
  todos : ∀ i, i ∈ todo ↔ i ∈ bigs ∧ listed.getD i true = false
  nodup : List.Nodup todo
def KI (P : Program) (ol : List Oper) (bigs : List Nat) (φ : Nat → Value → Prop) (G : World → Prop) (a0 : Act) (N : Nat) (e : List (Nat × Value)) (i : Nat) (w : World) (K : Value → World → Prop) : Prop :=
  ∀ w1, w.grownBy w1 none → G w1 → ∀ a, a.tmps.size = N → (∀ t, safeB ol i t = true → a.tmps.getD t undef = a0.tmps.getD t undef) → (∀ j oj d, depB ol i j = true → ol[j]? = some oj → oj.dst = some d → PhT bigs φ e j (a.tmps.getD d undef)) →
    ∀ o, ol[i]? = some o → wpList P ol.toArray (fun ex a' w' => ex = .normal ∧ ∃ v, ((o.dst = none ∧ a' = a) ∨ ∃ d, o.dst = some d ∧ a' = putsL a [(d, v)]) ∧ K v w' ∧ G w') [o] (putsL a []) w1
def readyT (ol : List Oper) (todo : List Nat) : List Nat := todo.filter fun i => todo.all fun j => !depB ol i j
def KT (P : Program) (ol : List Oper) (bigs : List Nat) (φ : Nat → Value → Prop) (G : World → Prop) (a0 : Act) (N : Nat) (Q : Exit → Act → World → Prop) : Nat → List Nat → List (Nat × Value) → World → Prop
  | 0, _, e, w => ∀ w1, w.grownBy w1 none → ∀ a', a'.tmps.size = N → a'.defers = a0.defers → (∀ t, (ol.all fun o => o.dst != some t) = true → a'.tmps.getD t undef = a0.tmps.getD t undef) →
      (∀ j oj d, ol[j]? = some oj → oj.dst = some d → PhT bigs φ e j (a'.tmps.getD d undef)) → Q .normal (putsL a' []) w1
  | n + 1, todo, e, w => ∀ i ∈ readyT ol todo, KI P ol bigs φ G a0 N e i w fun v w' => KT P ol bigs φ G a0 N Q n (todo.erase i) ((i, v) :: e) w'
theorem KT.stable : ∀ {n : Nat} {todo : List Nat} {e : List (Nat × Value)} {w w2 : World}, KT P ol bigs φ G a0 N Q n todo e w → w.grownBy w2 none → KT P ol bigs φ G a0 N Q n todo e w2
  | 0, _, _, _, _, h, E => fun w1 E1 => h w1 (grown_trans E E1)
  | _ + 1, _, _, _, _, h, E => fun i hi w1 E1 => h i hi w1 (grown_trans E E1)
def ObR9 (P : Program) (ol : List Oper) (bigs : List Nat) (φ : Nat → Value → Prop) (G : World → Prop) (a0 : Act) (N : Nat) (i : Nat) (o : Oper) : Prop :=
  ∀ (e : List (Nat × Value)) (a : Act) (w : World), a.tmps.size = N → G w → (∀ t, safeB ol i t = true → a.tmps.getD t undef = a0.tmps.getD t undef) → (∀ j oj d, depB ol i j = true → ol[j]? = some oj → oj.dst = some d → PhT bigs φ e j (a.tmps.getD d undef)) →
    wpList P ol.toArray (fun ex a' w' => ex = .normal ∧ (∃ d v, o.dst = some d ∧ a' = putsL a [(d, v)] ∧ φ i v) ∧ w.grownBy w' none) [o] (putsL a []) w
def ObRs9 (P : Program) (ol : List Oper) (bigs : List Nat) (φ : Nat → Value → Prop) (G : World → Prop) (a0 : Act) (N : Nat) : Nat → List Oper → Prop
  | _, [] => True
  | i, o :: r => (bigs.contains i = false → ObR9 P ol bigs φ G a0 N i o) ∧ ObRs9 P ol bigs φ G a0 N (i + 1) r
theorem ObRs9.nil {i : Nat} : ObRs9 P ol bigs φ G a0 N i [] := trivial
theorem ObRs9.cons {i : Nat} {o : Oper} {r : List Oper} (h : ObR9 P ol bigs φ G a0 N i o) (h' : ObRs9 P ol bigs φ G a0 N (i + 1) r) : ObRs9 P ol bigs φ G a0 N i (o :: r) := ⟨fun _ => h, h'⟩
theorem ObRs9.pass {i : Nat} {o : Oper} {r : List Oper} (hh : bigs.contains i = true) (h' : ObRs9 P ol bigs φ G a0 N (i + 1) r) : ObRs9 P ol bigs φ G a0 N i (o :: r) := ⟨fun h => absurd (hh.symm.trans h) (by decide), h'⟩
theorem ObRs9.getx : ∀ {l : List Oper} {i : Nat}, ObRs9 P ol bigs φ G a0 N i l → ∀ j o, l[j]? = some o → bigs.contains (i + j) = false → ObR9 P ol bigs φ G a0 N (i + j) o
  | [], _, _, j, o, h, _ => by simp at h
  | o' :: r, i, h, 0, o, hj, hs => by simp at hj; subst hj; exact h.1 hs
  | o' :: r, i, h, j + 1, o, hj, hs => by
    have := ObRs9.getx h.2 j o (by simpa using hj) (by rwa [show i + 1 + j = i + (j + 1) by omega])
    rwa [show i + 1 + j = i + (j + 1) by omega] at this
theorem region_tree_steps (hlex : lexB' ol = true) (hdn : dstNB ol N = true) (hdst : dstsB ol = true) (hbl : (bigs.all fun i => Nat.blt i ol.length) = true)
    (hG : ∀ w1 w2, w1.grownBy w2 none → G w1 → G w2) (obL : ∀ i o, ol[i]? = some o → bigs.contains i = false → ObR9 P ol bigs φ G a0 N i o) :
    ∀ (fuel : Nat) (listed : Array Bool) (todo : List Nat) (e : List (Nat × Value)) (a : Act) (w : World), TInv ol bigs φ a0 N listed todo e a → KT P ol bigs φ G a0 N Q todo.length todo e w → G w → (List.range ol.length).countP (fun i => !listed.getD i true) ≤ fuel → wpAny P .any ol.toArray Q fuel listed a w := by
  have done : ∀ (listed : Array Bool) (todo : List Nat) (e : List (Nat × Value)) (a : Act) (w : World), TInv ol bigs φ a0 N listed todo e a → KT P ol bigs φ G a0 N Q todo.length todo e w → Region.ready .any ol.toArray listed = [] → Q .normal a w := by
    intro listed todo ee a w I hk hr
    have hall : ∀ i, i < ol.length → listed.getD i true = true := by
      intro i
      induction i using Nat.strongRecOn with
      | _ i ih =>
        intro hi
        by_cases hq : listed.getD i true = true
        · exact hq
        · exfalso
          have hm : i ∈ Region.ready .any ol.toArray listed := by
            rw [mem_ready]
            refine ⟨by simpa using hq, ol[i], by simp [hi], fun e he hb => ?_⟩
            have h1 := List.all_eq_true.1 hlex i (by simp [hi])
            simp only [List.getElem?_eq_getElem hi, Array.all_eq_true_iff_forall_mem, Bool.or_eq_true, Bool.not_eq_true', Nat.blt_eq] at h1
            have h2 := (h1 e he).resolve_left (by simp [hb])
            exact getD_true_lt (ih e.on h2 (by omega)) (by rw [I.lsize]; omega)
          rw [hr] at hm
          cases hm
    have ht : todo = [] := by
      rw [List.eq_nil_iff_forall_not_mem]
      intro i hi
      obtain ⟨hb, hl⟩ := (I.todos i).1 hi
      have := List.all_eq_true.1 hbl i hb
      rw [hall i (by simpa [Nat.blt_eq] using this)] at hl
      cases hl
    subst ht
    exact hk w (grown_refl _ _) a I.size I.defers (fun t ht => I.base t fun j o hj _ hd' => by
      have := List.all_eq_true.1 ht o (List.mem_of_getElem? hj)
      simp [hd'] at this) (fun j oj d hj hd' => I.phi j oj d hj (hall j (List.getElem?_eq_some_iff.1 hj).1) hd')
  intro fuel
  induction fuel with
  | zero =>
    intro listed todo ee a w I hk hg hcnt
    have hr : Region.ready .any ol.toArray listed = [] := by
      rw [List.eq_nil_iff_forall_not_mem]
      intro i hi
      obtain ⟨h1, o, ho, _⟩ := mem_ready.1 hi
      have hlt : i < ol.length := by simpa using (Array.getElem?_eq_some_iff.1 ho).1
      have hz : (List.range ol.length).countP (fun i => !listed.getD i true) = 0 := by omega
      rw [List.countP_eq_zero] at hz
      exact hz i (by simp [hlt]) (by simp [h1])
    exact ⟨hr, done listed todo ee a w I hk hr⟩
  | succ fuel ih =>
    intro listed todo ee a w I hk hg hcnt
    refine ⟨fun hr => done listed todo ee a w I hk hr, fun i hi => ?_⟩
    obtain ⟨hun, o, ho, hwait⟩ := mem_ready.1 hi
    have ho' : ol[i]? = some o := by simpa using ho
    have hlt : i < ol.length := (List.getElem?_eq_some_iff.1 ho').1
    have hls : i < listed.size := by rw [I.lsize]; exact hlt
    have hcnt' : (List.range ol.length).countP (fun j => !(listed.setIfInBounds i true).getD j true) ≤ fuel := by
      have : (List.range ol.length).countP (fun j => !(listed.setIfInBounds i true).getD j true) < (List.range ol.length).countP (fun j => !listed.getD j true) := by
        refine countP_lt _ _ (fun y hy => ?_) _ i (by simp [hlt]) (by simp [hun]) (by simp [Array.getD_eq_getD_getElem?, hls])
        by_cases hiy : i = y
        · subst hiy; simp [Array.getD_eq_getD_getElem?, hls] at hy
        · rwa [getD_set_ne true hiy] at hy
      omega
    have hbase : ∀ t, safeB ol i t = true → a.tmps.getD t undef = a0.tmps.getD t undef := by
      intro t ht
      refine I.base t fun j oj hj hlj hd => ?_
      have h1 := List.all_eq_true.1 ht oj (List.mem_of_getElem? hj)
      simp only [Bool.or_eq_true, bne_iff_ne, ne_eq, Array.any_eq_true, Bool.and_eq_true, beq_iff_eq] at h1
      rcases h1 with h1 | ⟨q, hq, h1, h2⟩
      · exact h1 hd
      · have := getD_of_false (I.closed j oj hj hlj _ (Array.getElem_mem hq) h2)
        rw [h1, hun] at this
        cases this
    have hdep : ∀ j oj d, depB ol i j = true → ol[j]? = some oj → oj.dst = some d → PhT bigs φ ee j (a.tmps.getD d undef) := by
      intro j oj d hj hoj hd
      obtain ⟨e, he, h1, h2⟩ := depB_spec ho' hj
      exact I.phi j oj d hoj (getD_of_false (by rw [← h1]; exact hwait e he h2)) hd
    have hset : ∀ j, j ≠ i → (listed.setIfInBounds i true).getD j true = listed.getD j true := fun j hj => getD_set_ne true (Ne.symm hj)
    have hseti : (listed.setIfInBounds i true).getD i true = true := by simp [Array.getD_eq_getD_getElem?, hls]
    have hclosed : ∀ j oj, ol[j]? = some oj → (listed.setIfInBounds i true).getD j true = true → ∀ e ∈ oj.after, Region.binds .any e = true → (listed.setIfInBounds i true).getD e.on false = true := by
      intro j oj hoj hlj e he hb
      refine getD_set_true ?_
      by_cases hji : j = i
      · subst hji
        rw [ho'] at hoj; cases hoj
        exact hwait e he hb
      · rw [hset j hji] at hlj
        exact I.closed j oj hoj hlj e he hb
    have hne : ∀ j oj d, ol[j]? = some oj → j ≠ i → o.dst = some d → oj.dst ≠ some d := by
      intro j oj d hoj hji hd hd'
      have hj : j < ol.length := (List.getElem?_eq_some_iff.1 hoj).1
      have h1 := List.all_eq_true.1 (List.all_eq_true.1 hdst i (by simp [hlt])) j (by simp [hj])
      simp only [ho', hoj, Bool.or_eq_true, beq_iff_eq, bne_iff_ne, ne_eq] at h1
      rcases h1 with h1 | h1 | h1
      · exact hji h1.symm
      · exact h1 (by rw [hd, hd'])
      · rw [hd] at h1; cases h1
    -- what is left of the frame, behind a value in slot d
    have hframe : ∀ d v (e' : List (Nat × Value)), o.dst = some d → (∀ j u, j ≠ i → PhT bigs φ ee j u → PhT bigs φ e' j u) → PhT bigs φ e' i v → 
        (∀ t, (∀ j oj, ol[j]? = some oj → (listed.setIfInBounds i true).getD j true = true → oj.dst ≠ some t) → (putsL a [(d, v)]).tmps.getD t undef = a0.tmps.getD t undef) ∧
        (∀ j oj d', ol[j]? = some oj → (listed.setIfInBounds i true).getD j true = true → oj.dst = some d' → PhT bigs φ e' j ((putsL a [(d, v)]).tmps.getD d' undef)) := by
      intro d v e' hd hR hv
      have hdN : d < a.tmps.size := by
        have h1 := List.all_eq_true.1 hdn o (List.mem_of_getElem? ho')
        simp only [hd, Nat.blt_eq] at h1
        rw [I.size]; exact h1
      refine ⟨fun t ht => ?_, fun j oj d' hoj hlj hd' => ?_⟩
      · have hdt : d ≠ t := fun e => ht i o ho' hseti (by rw [hd, e])
        rw [get_put_ne hdt]
        refine I.base t fun j oj hoj hlj => ?_
        by_cases hji : j = i
        · subst hji; rw [hun] at hlj; cases hlj
        · exact ht j oj hoj (by rw [hset j hji]; exact hlj)
      · by_cases hji : j = i
        · subst hji
          rw [ho'] at hoj; cases hoj
          rw [hd] at hd'; cases hd'
          rw [get_put_eq hdN]
          exact hv
        · rw [hset j hji] at hlj
          have : d ≠ d' := fun e => hne j oj d hoj hji hd (by rw [hd', e])
          rw [get_put_ne this]
          exact hR j _ hji (I.phi j oj d' hoj hlj hd')
    by_cases hin : bigs.contains i = true
    · have hmem : i ∈ bigs := by simpa using hin
      have hit : i ∈ todo := (I.todos i).2 ⟨hmem, hun⟩
      have hrt : i ∈ readyT ol todo := by
        unfold readyT
        rw [List.mem_filter]
        refine ⟨hit, List.all_eq_true.2 fun j hj => ?_⟩
        cases hd : depB ol i j with
        | false => rfl
        | true =>
          obtain ⟨x, hx, h1, h2⟩ := depB_spec ho' hd
          have h3 := getD_of_false (hwait x hx h2)
          rw [h1, ((I.todos j).1 hj).2] at h3
          cases h3
      obtain ⟨n, hn⟩ : ∃ n, todo.length = n + 1 := ⟨todo.length - 1, by have := List.length_pos_of_mem hit; omega⟩
      have hn2 : (todo.erase i).length = n := by rw [List.length_erase_of_mem hit, hn]; rfl
      rw [hn] at hk
      have h0 := hk i hrt w (grown_refl _ _) hg a I.size hbase hdep o ho'
      refine wp_one (by simpa using ho') h0 fun a' w' h => ?_
      obtain ⟨v, h1, h2, h3⟩ := h
      have htodo : ∀ x, x ∈ todo.erase i ↔ x ∈ bigs ∧ (listed.setIfInBounds i true).getD x true = false := by
        intro x
        rw [I.nodup.mem_erase_iff, I.todos]
        by_cases hxi : x = i
        · subst hxi; simp [hseti]
        · rw [hset x hxi]; simp [hxi]
      refine ih _ (todo.erase i) ((i, v) :: ee) a' w' ?_ (by rw [hn2]; exact h2) h3 hcnt'
      have hpi : PhT bigs φ ((i, v) :: ee) i v := ⟨fun _ => by simp, fun hh => absurd (hin.symm.trans hh) (by decide)⟩
      rcases h1 with ⟨hd, rfl⟩ | ⟨d, hd, rfl⟩
      · refine ⟨I.size, I.defers, fun t ht => ?_, fun j oj d' hoj hlj hd' => ?_, hclosed, by simp [I.lsize], htodo, I.nodup.erase i⟩
        · refine I.base t fun j oj hoj hlj => ?_
          by_cases hji : j = i
          · subst hji; rw [hun] at hlj; cases hlj
          · exact ht j oj hoj (by rw [hset j hji]; exact hlj)
        · by_cases hji : j = i
          · subst hji
            rw [ho'] at hoj; cases hoj
            rw [hd] at hd'; cases hd'
          · rw [hset j hji] at hlj
            exact PhT.mono hji (I.phi j oj d' hoj hlj hd')
      · obtain ⟨f1, f2⟩ := hframe d v ((i, v) :: ee) hd (fun j u hj h => h.mono hj) hpi
        exact ⟨by rw [putsL_size, I.size], by rw [putsL_defers, I.defers], f1, f2, hclosed, by simp [I.lsize], htodo, I.nodup.erase i⟩
    · have hin' : bigs.contains i = false := by simpa using hin
      refine wp_one (by simpa using ho') (obL i o ho' hin' ee a w I.size hg hbase hdep) fun a' w' h => ?_
      obtain ⟨⟨d, v, hd, rfl, hv⟩, hgr⟩ := h
      obtain ⟨f1, f2⟩ := hframe d v ee hd (fun _ _ _ h => h) ⟨fun hh => absurd (hin'.symm.trans hh) (by decide), fun _ => hv⟩
      refine ih _ todo ee _ w' ⟨by rw [putsL_size, I.size], by rw [putsL_defers, I.defers], f1, f2, hclosed, by simp [I.lsize], fun x => ?_, I.nodup⟩ (hk.stable hgr) (hG _ _ hgr hg) hcnt'
      rw [I.todos]
      by_cases hxi : x = i
      · subst hxi; simp [hseti, hun]; simpa using hin'
      · rw [hset x hxi]
theorem any_tree (bigs : List Nat) (hlex : lexB' ol = true) (hdn : dstNB ol N = true) (hdst : dstsB ol = true) (hbl : (bigs.all fun i => Nat.blt i ol.length) = true) (hnd : decide bigs.Nodup = true)
    {l : List (Nat × Value)} {w : World} (hN : a0.tmps.size = N) (hG : ∀ w1 w2, w1.grownBy w2 none → G w1 → G w2) (g0 : G w) (obL : ObRs9 P ol bigs φ G (putsL a0 l) N 0 ol) (hdf : (putsL a0 l).defers = a0.defers)
    (main : KT P ol bigs φ G (putsL a0 l) N Q bigs.length bigs [] w) : RegAny P ol Q (putsL a0 l) w := by
  have hd : w.grownBy { w with drawn := w.drawn + 1 } none := ⟨rfl, rfl, rfl, Nat.le_refl _, fun _ _ _ => rfl⟩
  have I : TInv ol bigs φ (putsL a0 l) N (Array.replicate ol.length false) bigs [] (putsL a0 l) := by
    refine ⟨slN hN, rfl, fun _ _ => rfl, fun j o d hj hl => ?_, fun j o hj hl => ?_, by simp, fun i => ⟨fun hi => ⟨hi, ?_⟩, fun hi => hi.1⟩, of_decide_eq_true hnd⟩
    · have : j < ol.length := (List.getElem?_eq_some_iff.1 hj).1
      simp [Array.getD_eq_getD_getElem?, this] at hl
    · have : j < ol.length := (List.getElem?_eq_some_iff.1 hj).1
      simp [Array.getD_eq_getD_getElem?, this] at hl
    · have := List.all_eq_true.1 hbl i hi
      have h3 : i < ol.length := by simpa [Nat.blt_eq] using this
      simp [Array.getD_eq_getD_getElem?, h3]
  exact region_tree_steps (P := P) (Q := Q) hlex hdn hdst hbl hG (fun i o hi hh => by
      have h5 := ObRs9.getx obL i o hi (by rw [Nat.zero_add]; exact hh)
      rw [Nat.zero_add] at h5; exact h5) ol.length (Array.replicate ol.length false) bigs [] (putsL a0 l) _ I (main.stable hd) (hG _ _ hd g0) (Nat.le_trans (List.countP_le_length) (by simp))
theorem kt_step {n : Nat} {todo rs : List Nat} {e : List (Nat × Value)} {w : World} (hr : readyT ol todo = rs) (h : ∀ i ∈ rs, KI P ol bigs φ G a0 N e i w fun v w' => KT P ol bigs φ G a0 N Q n (todo.erase i) ((i, v) :: e) w') : KT P ol bigs φ G a0 N Q (n + 1) todo e w := by
  subst hr; exact h
theorem one_mem {p : Nat → Prop} {x : Nat} (h : p x) : ∀ i ∈ [x], p i := fun i hi => by
  obtain rfl : i = x := by simpa using hi
  exact h
theorem more_mem {p : Nat → Prop} {x y : Nat} {r : List Nat} (h : p x) (h' : ∀ i ∈ y :: r, p i) : ∀ i ∈ x :: y :: r, p i := List.forall_mem_cons.2 ⟨h, h'⟩
theorem kt_end {o : Oper} {d : Nat} {v : Value} {a : Act} {w : World} {K : Value → World → Prop} (hd : o.dst = some d) (g : G w) (h : K v w) :
    wpList P ol.toArray (fun ex a' w' => ex = .normal ∧ ∃ v, ((o.dst = none ∧ a' = a) ∨ ∃ d, o.dst = some d ∧ a' = putsL a [(d, v)]) ∧ K v w' ∧ G w') [] (putsL a [(d, v)]) w := ⟨rfl, v, .inr ⟨d, hd, rfl⟩, h, g⟩
theorem obT_end {o : Oper} {i d : Nat} {v : Value} {a : Act} {w : World} (hd : o.dst = some d) (hv : φ i v) :
    wpList P ol.toArray (fun ex a' w' => ex = .normal ∧ (∃ d v, o.dst = some d ∧ a' = putsL a [(d, v)] ∧ φ i v) ∧ w.grownBy w' none) [] (putsL a [(d, v)]) w := ⟨rfl, ⟨d, v, hd, rfl, hv⟩, grown_refl _ _⟩
end
end Go.Gx

namespace Go.Gx
open Go.RowKit
section
variable {P : Program} {ol : List Oper} {Q : Exit → Act → World → Prop} {E : Type} {Φ : E → Nat → Value → Prop} {C : E → Nat → World → Prop} {ch : Chain} {a0 : Act} {N : Nat}
end

section
variable {P : Program} {ol : List Oper} {Q : Exit → Act → World → Prop} {ops : List Nat} {φ : Nat → Value → Prop} {G : Nat → World → Prop} {a0 : Act} {N : Nat}
def PhK (ops : List Nat) (φ : Nat → Value → Prop) (e : List Value) (j : Nat) (u : Value) : Prop := (∀ c : Nat, ops[c]? = some j → e[c]? = some u) ∧ (ops.contains j = false → φ j u)
theorem PhK.mono {e : List Value} {v : Value} {j : Nat} {u : Value} (h : PhK ops φ e j u) : PhK ops φ (e ++ [v]) j u :=
  ⟨fun c hc => by have h1 := h.1 c hc; have hl := (List.getElem?_eq_some_iff.1 h1).1; rw [List.getElem?_append_left hl]; exact h1, h.2⟩
theorem PhK.light {j : Nat} {e : List Value} {u : Value} (hh : ops.contains j = false) (h : φ j u) : PhK ops φ e j u :=
  ⟨fun c hc => by have : ops.contains j = true := by simpa using List.mem_of_getElem? hc
                  exact absurd (this.symm.trans hh) (by decide), fun _ => h⟩
def KK (P : Program) (ol : List Oper) (ops : List Nat) (φ : Nat → Value → Prop) (G : Nat → World → Prop) (a0 : Act) (N : Nat) (Q : Exit → Act → World → Prop) : List Nat → List Value → World → Prop
  | [], e, w => ∀ w1, w.grownBy w1 none → ∀ a', a'.tmps.size = N → a'.defers = a0.defers → (∀ t, (ol.all fun o => o.dst != some t) = true → a'.tmps.getD t undef = a0.tmps.getD t undef) →
      (∀ j oj d, ol[j]? = some oj → oj.dst = some d → PhK ops φ e j (a'.tmps.getD d undef)) → Q .normal (putsL a' []) w1
  | i :: r, e, w => ∀ w1, w.grownBy w1 none → G e.length w1 → ∀ a, a.tmps.size = N → (∀ t, safeB ol i t = true → a.tmps.getD t undef = a0.tmps.getD t undef) → (∀ j oj d, depB ol i j = true → ol[j]? = some oj → oj.dst = some d → PhK ops φ e j (a.tmps.getD d undef)) →
      ∀ o, ol[i]? = some o → wpList P ol.toArray (fun ex a' w' => ex = .normal ∧ ∃ e', (∀ j u, PhK ops φ e j u → PhK ops φ e' j u) ∧ ((o.dst = none ∧ a' = a) ∨ ∃ d v, o.dst = some d ∧ a' = putsL a [(d, v)] ∧ PhK ops φ e' i v) ∧ (e'.length = e.length + 1 ∧ KK P ol ops φ G a0 N Q r e' w' ∧ G (e.length + 1) w')) [o] (putsL a []) w1
theorem KK.stable : ∀ {rs : List Nat} {e : List Value} {w w2 : World}, KK P ol ops φ G a0 N Q rs e w → w.grownBy w2 none → KK P ol ops φ G a0 N Q rs e w2
  | [], _, _, _, h, E => fun w1 E1 => h w1 (grown_trans E E1)
  | _ :: _, _, _, _, h, E => fun w1 E1 => h w1 (grown_trans E E1)
def ObK (P : Program) (ol : List Oper) (ops : List Nat) (φ : Nat → Value → Prop) (G : Nat → World → Prop) (a0 : Act) (N : Nat) (i : Nat) (o : Oper) : Prop :=
  ∀ (e : List Value) (a : Act) (w : World), a.tmps.size = N → (∀ m k, ops[m]? = some k → depB ol k i = true → e.length ≤ m) → G e.length w → (∀ t, safeB ol i t = true → a.tmps.getD t undef = a0.tmps.getD t undef) → (∀ j oj d, depB ol i j = true → ol[j]? = some oj → oj.dst = some d → PhK ops φ e j (a.tmps.getD d undef)) →
    wpList P ol.toArray (fun ex a' w' => ex = .normal ∧ (∃ d v, o.dst = some d ∧ a' = putsL a [(d, v)] ∧ PhK ops φ e i v) ∧ w.grownBy w' none) [o] (putsL a []) w
def ObKs (P : Program) (ol : List Oper) (ops : List Nat) (φ : Nat → Value → Prop) (G : Nat → World → Prop) (a0 : Act) (N : Nat) : Nat → List Oper → Prop
  | _, [] => True
  | i, o :: r => (ops.contains i = false → ObK P ol ops φ G a0 N i o) ∧ ObKs P ol ops φ G a0 N (i + 1) r
theorem ObKs.nil {i : Nat} : ObKs P ol ops φ G a0 N i [] := trivial
theorem ObKs.cons {i : Nat} {o : Oper} {r : List Oper} (h : ObK P ol ops φ G a0 N i o) (h' : ObKs P ol ops φ G a0 N (i + 1) r) : ObKs P ol ops φ G a0 N i (o :: r) := ⟨fun _ => h, h'⟩
theorem ObKs.pass {i : Nat} {o : Oper} {r : List Oper} (hh : ops.contains i = true) (h' : ObKs P ol ops φ G a0 N (i + 1) r) : ObKs P ol ops φ G a0 N i (o :: r) := ⟨fun h => absurd (hh.symm.trans h) (by decide), h'⟩
theorem ObKs.getx : ∀ {l : List Oper} {i : Nat}, ObKs P ol ops φ G a0 N i l → ∀ j o, l[j]? = some o → ops.contains (i + j) = false → ObK P ol ops φ G a0 N (i + j) o
  | [], _, _, j, o, h, _ => by simp at h
  | o' :: r, i, h, 0, o, hj, hs => by simp at hj; subst hj; exact h.1 hs
  | o' :: r, i, h, j + 1, o, hj, hs => by
    have := ObKs.getx h.2 j o (by simpa using hj) (by rwa [show i + 1 + j = i + (j + 1) by omega])
    rwa [show i + 1 + j = i + (j + 1) by omega] at this
end
end Go.Gx

namespace Go.Gx
open Go.RowKit
section
variable {P : Program} {ol : List Oper} {Q : Exit → Act → World → Prop} {bigs : List Nat} {φ : Nat → Value → Prop} {G : List Nat → World → Prop} {a0 : Act} {N : Nat}
def KIk (P : Program) (ol : List Oper) (bigs : List Nat) (φ : Nat → Value → Prop) (G : List Nat → World → Prop) (a0 : Act) (N : Nat) (e : List (Nat × Value)) (todo : List Nat) (i : Nat) (w : World) (K : Value → World → Prop) : Prop :=
  ∀ w1, w.grownBy w1 none → G todo w1 → ∀ a, a.tmps.size = N → (∀ t, safeB ol i t = true → a.tmps.getD t undef = a0.tmps.getD t undef) → (∀ j oj d, depB ol i j = true → ol[j]? = some oj → oj.dst = some d → PhT bigs φ e j (a.tmps.getD d undef)) →
    ∀ o, ol[i]? = some o → wpList P ol.toArray (fun ex a' w' => ex = .normal ∧ ∃ v, ((o.dst = none ∧ a' = a) ∨ ∃ d, o.dst = some d ∧ a' = putsL a [(d, v)]) ∧ K v w' ∧ G (todo.erase i) w') [o] (putsL a []) w1
def KTk (P : Program) (ol : List Oper) (bigs : List Nat) (φ : Nat → Value → Prop) (G : List Nat → World → Prop) (a0 : Act) (N : Nat) (Q : Exit → Act → World → Prop) : Nat → List Nat → List (Nat × Value) → World → Prop
  | 0, _, e, w => ∀ w1, w.grownBy w1 none → ∀ a', a'.tmps.size = N → a'.defers = a0.defers → (∀ t, (ol.all fun o => o.dst != some t) = true → a'.tmps.getD t undef = a0.tmps.getD t undef) →
      (∀ j oj d, ol[j]? = some oj → oj.dst = some d → PhT bigs φ e j (a'.tmps.getD d undef)) → Q .normal (putsL a' []) w1
  | n + 1, todo, e, w => ∀ i ∈ readyT ol todo, KIk P ol bigs φ G a0 N e todo i w fun v w' => KTk P ol bigs φ G a0 N Q n (todo.erase i) ((i, v) :: e) w'
theorem KTk.stable : ∀ {n : Nat} {todo : List Nat} {e : List (Nat × Value)} {w w2 : World}, KTk P ol bigs φ G a0 N Q n todo e w → w.grownBy w2 none → KTk P ol bigs φ G a0 N Q n todo e w2
  | 0, _, _, _, _, h, E => fun w1 E1 => h w1 (grown_trans E E1)
  | _ + 1, _, _, _, _, h, E => fun i hi w1 E1 => h i hi w1 (grown_trans E E1)
def ObQ9 (P : Program) (ol : List Oper) (bigs : List Nat) (φ : Nat → Value → Prop) (G : List Nat → World → Prop) (a0 : Act) (N : Nat) (i : Nat) (o : Oper) : Prop :=
  ∀ (e : List (Nat × Value)) (todo : List Nat) (a : Act) (w : World), a.tmps.size = N → (∀ j, bigs.contains j = true → depB ol j i = true → j ∈ todo) → G todo w → (∀ t, safeB ol i t = true → a.tmps.getD t undef = a0.tmps.getD t undef) → (∀ j oj d, depB ol i j = true → ol[j]? = some oj → oj.dst = some d → PhT bigs φ e j (a.tmps.getD d undef)) →
    wpList P ol.toArray (fun ex a' w' => ex = .normal ∧ (∃ d v, o.dst = some d ∧ a' = putsL a [(d, v)] ∧ φ i v) ∧ w.grownBy w' none) [o] (putsL a []) w
def ObRk9 (P : Program) (ol : List Oper) (bigs : List Nat) (φ : Nat → Value → Prop) (G : List Nat → World → Prop) (a0 : Act) (N : Nat) : Nat → List Oper → Prop
  | _, [] => True
  | i, o :: r => (bigs.contains i = false → ObQ9 P ol bigs φ G a0 N i o) ∧ ObRk9 P ol bigs φ G a0 N (i + 1) r
theorem ObRk9.nil {i : Nat} : ObRk9 P ol bigs φ G a0 N i [] := trivial
theorem ObRk9.cons {i : Nat} {o : Oper} {r : List Oper} (h : ObQ9 P ol bigs φ G a0 N i o) (h' : ObRk9 P ol bigs φ G a0 N (i + 1) r) : ObRk9 P ol bigs φ G a0 N i (o :: r) := ⟨fun _ => h, h'⟩
theorem ObRk9.pass {i : Nat} {o : Oper} {r : List Oper} (hh : bigs.contains i = true) (h' : ObRk9 P ol bigs φ G a0 N (i + 1) r) : ObRk9 P ol bigs φ G a0 N i (o :: r) := ⟨fun h => absurd (hh.symm.trans h) (by decide), h'⟩
theorem ObRk9.getx : ∀ {l : List Oper} {i : Nat}, ObRk9 P ol bigs φ G a0 N i l → ∀ j o, l[j]? = some o → bigs.contains (i + j) = false → ObQ9 P ol bigs φ G a0 N (i + j) o
  | [], _, _, j, o, h, _ => by simp at h
  | o' :: r, i, h, 0, o, hj, hs => by simp at hj; subst hj; exact h.1 hs
  | o' :: r, i, h, j + 1, o, hj, hs => by
    have := ObRk9.getx h.2 j o (by simpa using hj) (by rwa [show i + 1 + j = i + (j + 1) by omega])
    rwa [show i + 1 + j = i + (j + 1) by omega] at this
theorem region_treek_steps (hlex : lexB' ol = true) (hdn : dstNB ol N = true) (hdst : dstsB ol = true) (hbl : (bigs.all fun i => Nat.blt i ol.length) = true)
    (hG : ∀ t w1 w2, w1.grownBy w2 none → G t w1 → G t w2) (obL : ∀ i o, ol[i]? = some o → bigs.contains i = false → ObQ9 P ol bigs φ G a0 N i o) :
    ∀ (fuel : Nat) (listed : Array Bool) (todo : List Nat) (e : List (Nat × Value)) (a : Act) (w : World), TInv ol bigs φ a0 N listed todo e a → KTk P ol bigs φ G a0 N Q todo.length todo e w → G todo w → (List.range ol.length).countP (fun i => !listed.getD i true) ≤ fuel → wpAny P .any ol.toArray Q fuel listed a w := by
  have done : ∀ (listed : Array Bool) (todo : List Nat) (e : List (Nat × Value)) (a : Act) (w : World), TInv ol bigs φ a0 N listed todo e a → KTk P ol bigs φ G a0 N Q todo.length todo e w → Region.ready .any ol.toArray listed = [] → Q .normal a w := by
    intro listed todo ee a w I hk hr
    have hall : ∀ i, i < ol.length → listed.getD i true = true := by
      intro i
      induction i using Nat.strongRecOn with
      | _ i ih =>
        intro hi
        by_cases hq : listed.getD i true = true
        · exact hq
        · exfalso
          have hm : i ∈ Region.ready .any ol.toArray listed := by
            rw [mem_ready]
            refine ⟨by simpa using hq, ol[i], by simp [hi], fun e he hb => ?_⟩
            have h1 := List.all_eq_true.1 hlex i (by simp [hi])
            simp only [List.getElem?_eq_getElem hi, Array.all_eq_true_iff_forall_mem, Bool.or_eq_true, Bool.not_eq_true', Nat.blt_eq] at h1
            have h2 := (h1 e he).resolve_left (by simp [hb])
            exact getD_true_lt (ih e.on h2 (by omega)) (by rw [I.lsize]; omega)
          rw [hr] at hm
          cases hm
    have ht : todo = [] := by
      rw [List.eq_nil_iff_forall_not_mem]
      intro i hi
      obtain ⟨hb, hl⟩ := (I.todos i).1 hi
      have := List.all_eq_true.1 hbl i hb
      rw [hall i (by simpa [Nat.blt_eq] using this)] at hl
      cases hl
    subst ht
    exact hk w (grown_refl _ _) a I.size I.defers (fun t ht => I.base t fun j o hj _ hd' => by
      have := List.all_eq_true.1 ht o (List.mem_of_getElem? hj)
      simp [hd'] at this) (fun j oj d hj hd' => I.phi j oj d hj (hall j (List.getElem?_eq_some_iff.1 hj).1) hd')
  intro fuel
  induction fuel with
  | zero =>
    intro listed todo ee a w I hk hg hcnt
    have hr : Region.ready .any ol.toArray listed = [] := by
      rw [List.eq_nil_iff_forall_not_mem]
      intro i hi
      obtain ⟨h1, o, ho, _⟩ := mem_ready.1 hi
      have hlt : i < ol.length := by simpa using (Array.getElem?_eq_some_iff.1 ho).1
      have hz : (List.range ol.length).countP (fun i => !listed.getD i true) = 0 := by omega
      rw [List.countP_eq_zero] at hz
      exact hz i (by simp [hlt]) (by simp [h1])
    exact ⟨hr, done listed todo ee a w I hk hr⟩
  | succ fuel ih =>
    intro listed todo ee a w I hk hg hcnt
    refine ⟨fun hr => done listed todo ee a w I hk hr, fun i hi => ?_⟩
    obtain ⟨hun, o, ho, hwait⟩ := mem_ready.1 hi
    have ho' : ol[i]? = some o := by simpa using ho
    have hlt : i < ol.length := (List.getElem?_eq_some_iff.1 ho').1
    have hls : i < listed.size := by rw [I.lsize]; exact hlt
    have hcnt' : (List.range ol.length).countP (fun j => !(listed.setIfInBounds i true).getD j true) ≤ fuel := by
      have : (List.range ol.length).countP (fun j => !(listed.setIfInBounds i true).getD j true) < (List.range ol.length).countP (fun j => !listed.getD j true) := by
        refine countP_lt _ _ (fun y hy => ?_) _ i (by simp [hlt]) (by simp [hun]) (by simp [Array.getD_eq_getD_getElem?, hls])
        by_cases hiy : i = y
        · subst hiy; simp [Array.getD_eq_getD_getElem?, hls] at hy
        · rwa [getD_set_ne true hiy] at hy
      omega
    have hbase : ∀ t, safeB ol i t = true → a.tmps.getD t undef = a0.tmps.getD t undef := by
      intro t ht
      refine I.base t fun j oj hj hlj hd => ?_
      have h1 := List.all_eq_true.1 ht oj (List.mem_of_getElem? hj)
      simp only [Bool.or_eq_true, bne_iff_ne, ne_eq, Array.any_eq_true, Bool.and_eq_true, beq_iff_eq] at h1
      rcases h1 with h1 | ⟨q, hq, h1, h2⟩
      · exact h1 hd
      · have := getD_of_false (I.closed j oj hj hlj _ (Array.getElem_mem hq) h2)
        rw [h1, hun] at this
        cases this
    have hdep : ∀ j oj d, depB ol i j = true → ol[j]? = some oj → oj.dst = some d → PhT bigs φ ee j (a.tmps.getD d undef) := by
      intro j oj d hj hoj hd
      obtain ⟨e, he, h1, h2⟩ := depB_spec ho' hj
      exact I.phi j oj d hoj (getD_of_false (by rw [← h1]; exact hwait e he h2)) hd
    have hset : ∀ j, j ≠ i → (listed.setIfInBounds i true).getD j true = listed.getD j true := fun j hj => getD_set_ne true (Ne.symm hj)
    have hseti : (listed.setIfInBounds i true).getD i true = true := by simp [Array.getD_eq_getD_getElem?, hls]
    have hclosed : ∀ j oj, ol[j]? = some oj → (listed.setIfInBounds i true).getD j true = true → ∀ e ∈ oj.after, Region.binds .any e = true → (listed.setIfInBounds i true).getD e.on false = true := by
      intro j oj hoj hlj e he hb
      refine getD_set_true ?_
      by_cases hji : j = i
      · subst hji
        rw [ho'] at hoj; cases hoj
        exact hwait e he hb
      · rw [hset j hji] at hlj
        exact I.closed j oj hoj hlj e he hb
    have hne : ∀ j oj d, ol[j]? = some oj → j ≠ i → o.dst = some d → oj.dst ≠ some d := by
      intro j oj d hoj hji hd hd'
      have hj : j < ol.length := (List.getElem?_eq_some_iff.1 hoj).1
      have h1 := List.all_eq_true.1 (List.all_eq_true.1 hdst i (by simp [hlt])) j (by simp [hj])
      simp only [ho', hoj, Bool.or_eq_true, beq_iff_eq, bne_iff_ne, ne_eq] at h1
      rcases h1 with h1 | h1 | h1
      · exact hji h1.symm
      · exact h1 (by rw [hd, hd'])
      · rw [hd] at h1; cases h1
    -- what is left of the frame, behind a value in slot d
    have hframe : ∀ d v (e' : List (Nat × Value)), o.dst = some d → (∀ j u, j ≠ i → PhT bigs φ ee j u → PhT bigs φ e' j u) → PhT bigs φ e' i v → 
        (∀ t, (∀ j oj, ol[j]? = some oj → (listed.setIfInBounds i true).getD j true = true → oj.dst ≠ some t) → (putsL a [(d, v)]).tmps.getD t undef = a0.tmps.getD t undef) ∧
        (∀ j oj d', ol[j]? = some oj → (listed.setIfInBounds i true).getD j true = true → oj.dst = some d' → PhT bigs φ e' j ((putsL a [(d, v)]).tmps.getD d' undef)) := by
      intro d v e' hd hR hv
      have hdN : d < a.tmps.size := by
        have h1 := List.all_eq_true.1 hdn o (List.mem_of_getElem? ho')
        simp only [hd, Nat.blt_eq] at h1
        rw [I.size]; exact h1
      refine ⟨fun t ht => ?_, fun j oj d' hoj hlj hd' => ?_⟩
      · have hdt : d ≠ t := fun e => ht i o ho' hseti (by rw [hd, e])
        rw [get_put_ne hdt]
        refine I.base t fun j oj hoj hlj => ?_
        by_cases hji : j = i
        · subst hji; rw [hun] at hlj; cases hlj
        · exact ht j oj hoj (by rw [hset j hji]; exact hlj)
      · by_cases hji : j = i
        · subst hji
          rw [ho'] at hoj; cases hoj
          rw [hd] at hd'; cases hd'
          rw [get_put_eq hdN]
          exact hv
        · rw [hset j hji] at hlj
          have : d ≠ d' := fun e => hne j oj d hoj hji hd (by rw [hd', e])
          rw [get_put_ne this]
          exact hR j _ hji (I.phi j oj d' hoj hlj hd')
    by_cases hin : bigs.contains i = true
    · have hmem : i ∈ bigs := by simpa using hin
      have hit : i ∈ todo := (I.todos i).2 ⟨hmem, hun⟩
      have hrt : i ∈ readyT ol todo := by
        unfold readyT
        rw [List.mem_filter]
        refine ⟨hit, List.all_eq_true.2 fun j hj => ?_⟩
        cases hd : depB ol i j with
        | false => rfl
        | true =>
          obtain ⟨x, hx, h1, h2⟩ := depB_spec ho' hd
          have h3 := getD_of_false (hwait x hx h2)
          rw [h1, ((I.todos j).1 hj).2] at h3
          cases h3
      obtain ⟨n, hn⟩ : ∃ n, todo.length = n + 1 := ⟨todo.length - 1, by have := List.length_pos_of_mem hit; omega⟩
      have hn2 : (todo.erase i).length = n := by rw [List.length_erase_of_mem hit, hn]; rfl
      rw [hn] at hk
      have h0 := hk i hrt w (grown_refl _ _) hg a I.size hbase hdep o ho'
      refine wp_one (by simpa using ho') h0 fun a' w' h => ?_
      obtain ⟨v, h1, h2, h3⟩ := h
      have htodo : ∀ x, x ∈ todo.erase i ↔ x ∈ bigs ∧ (listed.setIfInBounds i true).getD x true = false := by
        intro x
        rw [I.nodup.mem_erase_iff, I.todos]
        by_cases hxi : x = i
        · subst hxi; simp [hseti]
        · rw [hset x hxi]; simp [hxi]
      refine ih _ (todo.erase i) ((i, v) :: ee) a' w' ?_ (by rw [hn2]; exact h2) h3 hcnt'
      have hpi : PhT bigs φ ((i, v) :: ee) i v := ⟨fun _ => by simp, fun hh => absurd (hin.symm.trans hh) (by decide)⟩
      rcases h1 with ⟨hd, rfl⟩ | ⟨d, hd, rfl⟩
      · refine ⟨I.size, I.defers, fun t ht => ?_, fun j oj d' hoj hlj hd' => ?_, hclosed, by simp [I.lsize], htodo, I.nodup.erase i⟩
        · refine I.base t fun j oj hoj hlj => ?_
          by_cases hji : j = i
          · subst hji; rw [hun] at hlj; cases hlj
          · exact ht j oj hoj (by rw [hset j hji]; exact hlj)
        · by_cases hji : j = i
          · subst hji
            rw [ho'] at hoj; cases hoj
            rw [hd] at hd'; cases hd'
          · rw [hset j hji] at hlj
            exact PhT.mono hji (I.phi j oj d' hoj hlj hd')
      · obtain ⟨f1, f2⟩ := hframe d v ((i, v) :: ee) hd (fun j u hj h => h.mono hj) hpi
        exact ⟨by rw [putsL_size, I.size], by rw [putsL_defers, I.defers], f1, f2, hclosed, by simp [I.lsize], htodo, I.nodup.erase i⟩
    · have hin' : bigs.contains i = false := by simpa using hin
      have hck : ∀ j, bigs.contains j = true → depB ol j i = true → j ∈ todo := by
        intro j hj hd
        rw [I.todos]
        refine ⟨by simpa using hj, ?_⟩
        cases hl : listed.getD j true with
        | false => rfl
        | true =>
          exfalso
          cases hok : ol[j]? with
          | none => simp [depB, hok] at hd
          | some ok =>
            obtain ⟨x, hx, h4, h5⟩ := depB_spec hok hd
            have h6 := getD_of_false (I.closed j ok hok hl x hx h5)
            rw [h4, hun] at h6; cases h6
      refine wp_one (by simpa using ho') (obL i o ho' hin' ee todo a w I.size hck hg hbase hdep) fun a' w' h => ?_
      obtain ⟨⟨d, v, hd, rfl, hv⟩, hgr⟩ := h
      obtain ⟨f1, f2⟩ := hframe d v ee hd (fun _ _ _ h => h) ⟨fun hh => absurd (hin'.symm.trans hh) (by decide), fun _ => hv⟩
      refine ih _ todo ee _ w' ⟨by rw [putsL_size, I.size], by rw [putsL_defers, I.defers], f1, f2, hclosed, by simp [I.lsize], fun x => ?_, I.nodup⟩ (hk.stable hgr) (hG _ _ _ hgr hg) hcnt'
      rw [I.todos]
      by_cases hxi : x = i
      · subst hxi; simp [hseti, hun]; simpa using hin'
      · rw [hset x hxi]
theorem any_treek (bigs : List Nat) (hlex : lexB' ol = true) (hdn : dstNB ol N = true) (hdst : dstsB ol = true) (hbl : (bigs.all fun i => Nat.blt i ol.length) = true) (hnd : decide bigs.Nodup = true)
    {l : List (Nat × Value)} {w : World} (hN : a0.tmps.size = N) (hG : ∀ t w1 w2, w1.grownBy w2 none → G t w1 → G t w2) (g0 : G bigs w) (obL : ObRk9 P ol bigs φ G (putsL a0 l) N 0 ol) (hdf : (putsL a0 l).defers = a0.defers)
    (main : KTk P ol bigs φ G (putsL a0 l) N Q bigs.length bigs [] w) : RegAny P ol Q (putsL a0 l) w := by
  have hd : w.grownBy { w with drawn := w.drawn + 1 } none := ⟨rfl, rfl, rfl, Nat.le_refl _, fun _ _ _ => rfl⟩
  have I : TInv ol bigs φ (putsL a0 l) N (Array.replicate ol.length false) bigs [] (putsL a0 l) := by
    refine ⟨slN hN, rfl, fun _ _ => rfl, fun j o d hj hl => ?_, fun j o hj hl => ?_, by simp, fun i => ⟨fun hi => ⟨hi, ?_⟩, fun hi => hi.1⟩, of_decide_eq_true hnd⟩
    · have : j < ol.length := (List.getElem?_eq_some_iff.1 hj).1
      simp [Array.getD_eq_getD_getElem?, this] at hl
    · have : j < ol.length := (List.getElem?_eq_some_iff.1 hj).1
      simp [Array.getD_eq_getD_getElem?, this] at hl
    · have := List.all_eq_true.1 hbl i hi
      have h3 : i < ol.length := by simpa [Nat.blt_eq] using this
      simp [Array.getD_eq_getD_getElem?, h3]
  exact region_treek_steps (P := P) (Q := Q) hlex hdn hdst hbl hG (fun i o hi hh => by
      have h5 := ObRk9.getx obL i o hi (by rw [Nat.zero_add]; exact hh)
      rw [Nat.zero_add] at h5; exact h5) ol.length (Array.replicate ol.length false) bigs [] (putsL a0 l) _ I (main.stable hd) (hG _ _ _ hd g0) (Nat.le_trans (List.countP_le_length) (by simp))
theorem ktk_step {n : Nat} {todo rs : List Nat} {e : List (Nat × Value)} {w : World} (hr : readyT ol todo = rs) (h : ∀ i ∈ rs, KIk P ol bigs φ G a0 N e todo i w fun v w' => KTk P ol bigs φ G a0 N Q n (todo.erase i) ((i, v) :: e) w') : KTk P ol bigs φ G a0 N Q (n + 1) todo e w := by
  subst hr; exact h
theorem ktk_end {todo : List Nat} {i : Nat} {o : Oper} {d : Nat} {v : Value} {a : Act} {w : World} {K : Value → World → Prop} (hd : o.dst = some d) (g : G (todo.erase i) w) (h : K v w) :
    wpList P ol.toArray (fun ex a' w' => ex = .normal ∧ ∃ v, ((o.dst = none ∧ a' = a) ∨ ∃ d, o.dst = some d ∧ a' = putsL a [(d, v)]) ∧ K v w' ∧ G (todo.erase i) w') [] (putsL a [(d, v)]) w := ⟨rfl, v, .inr ⟨d, hd, rfl⟩, h, g⟩
theorem ktk_end0 {todo : List Nat} {i : Nat} {o : Oper} {a : Act} {w : World} {K : Value → World → Prop} (hd : o.dst = none) (g : G (todo.erase i) w) (h : K undef w) :
    wpList P ol.toArray (fun ex a' w' => ex = .normal ∧ ∃ v, ((o.dst = none ∧ a' = a) ∨ ∃ d, o.dst = some d ∧ a' = putsL a [(d, v)]) ∧ K v w' ∧ G (todo.erase i) w') [] (putsL a []) w := ⟨rfl, undef, .inl ⟨hd, rfl⟩, h, g⟩
theorem obTk_end {o : Oper} {i d : Nat} {v : Value} {a : Act} {w : World} (hd : o.dst = some d) (hv : φ i v) :
    wpList P ol.toArray (fun ex a' w' => ex = .normal ∧ (∃ d v, o.dst = some d ∧ a' = putsL a [(d, v)] ∧ φ i v) ∧ w.grownBy w' none) [] (putsL a [(d, v)]) w := ⟨rfl, ⟨d, v, hd, rfl, hv⟩, grown_refl _ _⟩
end
end Go.Gx

namespace Go.Proofs.Ythflnkfghogaoaa
open Go.Gx Go.RowKit
attribute [local irreducible] wpList wpStill Code.wp Calls

theorem CloneC (l : List (PCol)) (v : Value) (w : World) (hz : l.length ≤ 1000000000) (hl : RdC w 0 w.heap.size 3 v l.length (l.flatMap cellsC)) : Ret Try.prog 89 #[v] w (fun v' w' => Below w.heap.size w w' ∧ Own w' w.heap.size 68 3 v' l.length (l.flatMap cellsC)) := by
 have hb := Below.refl w.heap.size w
 refine enter (N := 8) Try.func89 rfl rfl (by simp) fun a0 hN hd hA => ?_
 have s0 : a0.tmps.getD 0 undef = v := hA 0 (by simp)
 clear hA
 refine seq_any fun K1 hK1 => one_reg (op_assign rfl (reg_nil (hK1 _ _ (seq_any fun K2 hK2 => ?_))))
 refine seq_any fun K3 hK3 => one_reg (op_move (ev_base hN rfl s0) (op_eql_nil slt41 (ev_hit hN rfl) rfl hl (fun c4 => ?_) ?_))
 ·
  refine reg_nil (hK3 _ _ ?_)
  refine wp_cond_true (ev_hit hN rfl) (seq_any fun K4 hK4 => one_reg (op_assign rfl (reg_nil (hK4 _ _ (wp_ret (then_ret ( ?_)))))))
  refine ret1 rfl hd (ev_hit hN rfl) ⟨_, rfl, ?_⟩
  exact ⟨hb, by rw [List.length_eq_zero_iff.1 c4]; exact Own.nil _ _ _ _⟩
 ·
  refine reg_nil ?_
  refine hK3 _ _ (wp_cond_false (ev_hit hN rfl) (wp_skip (hK2 _ _ (seq_any fun K5 hK5 => one_reg (op_bslice (e := 68) (pv := []) (cs := []) trivial (by kernel_rfl) ?_)))))
  intro w6 b7 lo_b7 hi_b7 hB9 E8
  have z_w6 := E8.size
  have hl := hl.keep0 E8
  have hb := below_step0 hb E8 hb.size
  refine op_move (ev_base hN rfl s0) ?_
  have hP15 := (Own.ofBx (base := w.heap.size) (sz := 3) (n := 0) hB9 rfl (by decide) (by omega))
  refine op_append slt41 (ev_hit hN rfl) hP15 (ev_hit hN rfl) (Src.ofRd Try.underlying41 (by decide) hl (one_pc _)) (by unfold maxLen; omega) (by omega) hb.size ?_
  intro v10 w11 hO13 E12 hm14
  have z_w11 := E12.size
  have hl := hl.keepO hP15 E12 (by omega)
  have hb := below_stepO hb hP15 E12 hb.size (by omega)
  have hO13 : Own w11 w.heap.size 68 3 v10 (0 + l.length) ((l).flatMap cellsC) := by simpa [u8v, u16v, sv] using hO13
  refine op_assign (ev_hit hN rfl) (reg_nil (hK5 _ _ (wp_ret ?_)))
  refine ret1 rfl hd (ev_hit hN rfl) ⟨_, rfl, ?_⟩
  exact ⟨hb, hO13.cast (by simp) (by simp)⟩

theorem CloneS (l : List (List UInt8)) (v : Value) (w : World) (hz : l.length ≤ 1000000000) (hl : RdC w 0 w.heap.size 1 v l.length (l.map sv)) : Ret Try.prog 90 #[v] w (fun v' w' => Below w.heap.size w w' ∧ Own w' w.heap.size 9 1 v' l.length (l.map sv)) := by
 have hb := Below.refl w.heap.size w
 refine enter (N := 8) Try.func90 rfl rfl (by simp) fun a0 hN hd hA => ?_
 have s0 : a0.tmps.getD 0 undef = v := hA 0 (by simp)
 clear hA
 refine seq_any fun K16 hK16 => one_reg (op_assign rfl (reg_nil (hK16 _ _ (seq_any fun K17 hK17 => ?_))))
 refine seq_any fun K18 hK18 => one_reg (op_move (ev_base hN rfl s0) (op_eql_nil slt53 (ev_hit hN rfl) rfl hl (fun c4 => ?_) ?_))
 ·
  refine reg_nil (hK18 _ _ ?_)
  refine wp_cond_true (ev_hit hN rfl) (seq_any fun K19 hK19 => one_reg (op_assign rfl (reg_nil (hK19 _ _ (wp_ret (then_ret ( ?_)))))))
  refine ret1 rfl hd (ev_hit hN rfl) ⟨_, rfl, ?_⟩
  exact ⟨hb, by rw [List.length_eq_zero_iff.1 c4]; exact Own.nil _ _ _ _⟩
 ·
  refine reg_nil ?_
  refine hK18 _ _ (wp_cond_false (ev_hit hN rfl) (wp_skip (hK17 _ _ (seq_any fun K20 hK20 => one_reg (op_bslice (e := 9) (pv := []) (cs := []) trivial (by kernel_rfl) ?_)))))
  intro w21 b22 lo_b22 hi_b22 hB24 E23
  have z_w21 := E23.size
  have hl := hl.keep0 E23
  have hb := below_step0 hb E23 hb.size
  refine op_move (ev_base hN rfl s0) ?_
  have hP30 := (Own.ofBx (base := w.heap.size) (sz := 1) (n := 0) hB24 rfl (by decide) (by omega))
  refine op_append slt53 (ev_hit hN rfl) hP30 (ev_hit hN rfl) (Src.ofRd Try.underlying53 (by decide) hl (one_sv _)) (by unfold maxLen; omega) (by omega) hb.size ?_
  intro v25 w26 hO28 E27 hm29
  have z_w26 := E27.size
  have hl := hl.keepO hP30 E27 (by omega)
  have hb := below_stepO hb hP30 E27 hb.size (by omega)
  have hO28 : Own w26 w.heap.size 9 1 v25 (0 + l.length) ((l).map sv) := by simpa [u8v, u16v, sv] using hO28
  refine op_assign (ev_hit hN rfl) (reg_nil (hK20 _ _ (wp_ret ?_)))
  refine ret1 rfl hd (ev_hit hN rfl) ⟨_, rfl, ?_⟩
  exact ⟨hb, hO28.cast (by simp) (by simp)⟩

theorem IdxT {L : List DTab} {v : Value} {p : DTab → Bool} {w : World} (hl : RdC w 0 w.heap.size 3 v L.length (L.flatMap cellsT)) {g : Nat} {fs cs : List Value} (hokg : callOk Try.prog g = true) (hf : ∀ i, i < L.length → ∀ w1, Below w.heap.size w w1 → Ret Try.prog g (fs ++ [(Value.agg #[(Value.string (bs (L.getD i default).t.nm)), (L.getD i default).cv, (L.getD i default).iv])] ++ cs).toArray w1 (fun v' w' => Below w1.heap.size w1 w' ∧ v' = .bool (p (L.getD i default)))) : Ret Try.prog 102 #[v, (Value.func (.func g) fs.toArray cs.toArray)] w (fun v' w' => Below w.heap.size w w' ∧ v' = .int .i64 (ixOf p L)) := by
 have hlm := rd_len hl
 have hb := Below.refl w.heap.size w
 refine enter (N := 19) Try.func102 rfl rfl (by simp) fun a0 hN hd hA => ?_
 have s0 : a0.tmps.getD 0 undef = v := hA 0 (by simp)
 have s1 : a0.tmps.getD 1 undef = (Value.func (.func g) fs.toArray cs.toArray) := hA 1 (by simp)
 clear hA
 refine seq_any fun K31 hK31 => one_reg (op_assign rfl ?_)
 refine reg_nil (hK31 _ _ (seq_any fun K32 hK32 => seq_any fun K33 hK33 => one_reg (op_move (ev_base hN rfl s0) (op_len_rd Try.underlying36 (ev_hit hN rfl) hl ?_))))
 refine op_move rfl (reg_nil (hK33 _ _ (wp_block ?_)))
 refine loop_m (fun mz_ az_ w' => ∃ (i : Nat), mz_ = L.length - i ∧ (az_.tmps.getD 0 undef = v) ∧ (az_.tmps.getD 1 undef = (Value.func (.func g) fs.toArray cs.toArray)) ∧ (az_.tmps.getD 7 undef = (Value.int .i64 ((L.length : Nat) : Int))) ∧ (az_.tmps.getD 8 undef = (Value.int .i64 ((i : Nat) : Int))) ∧ (i ≤ L.length) ∧ (∀ j, j < i → p (L.getD j default) = false) ∧ (Below w.heap.size w w') ∧ (w.heap.size ≤ w'.heap.size) ∧ (RdC w' 0 w.heap.size 3 v L.length (L.flatMap cellsT))) _ hN hd ⟨0, rfl, (sl_base hN rfl s0), (sl_base hN rfl s1), (sl_hit hN rfl), (sl_hit hN rfl), (Nat.zero_le _), (fun _ h => absurd h (Nat.not_lt_zero _)), hb, (Nat.le_refl _), hl⟩ ?_
 rintro _ a34 w34 hN34 hd34 ⟨i, rfl, s34_0, s34_1, s34_7, s34_8, hi, hall, hb, zl_w34, hl⟩
 have z_w34 := hb.size
 refine seq_any fun K35 hK35 => ?_
 refine one_reg (op_lss (ev_base hN34 rfl s34_8) (ev_base hN34 rfl s34_7) (fun c9 => ?_) (fun c9 => ?_))
 ·
  refine reg_nil ?_
  refine hK35 _ _ (seq_any fun K36 hK36 => wp_cond_true (ev_hit hN34 rfl) (wp_skip (hK36 _ _ (seq_any fun K37 hK37 => wp_block ?_))))
  refine seq_any fun K38 hK38 => one_reg (op_move (ev_base hN34 rfl s34_8) (op_assign (ev_hit hN34 rfl) (reg_nil ?_)))
  refine hK38 _ _ (seq_any fun K39 hK39 => one_reg (op_move (ev_base hN34 rfl s34_1) (op_move (ev_base hN34 rfl s34_0) (op_move (ev_hit hN34 rfl) (op_index_rd slt36 (ev_hit hN34 rfl) hl (ev_hit hN34 rfl) (by omega) (by omega) ?_)))))
  intro b40 o41 h0b40 h1b40 hc42
  refine op_loadA (cs := [(Value.string (bs (L.getD i default).t.nm)), (L.getD i default).cv, (L.getD i default).iv]) agg55 rfl (ev_hit hN34 rfl) (fun j u hu => hc42 j u (by have := (List.getElem?_eq_some_iff.1 hu).1; simpa using this) ((el_dt (i := i) (by omega) (by omega)) j u hu)) ?_
  refine op_fnv (fs := fs) (vs := [(Value.agg #[(Value.string (bs (L.getD i default).t.nm)), (L.getD i default).cv, (L.getD i default).iv])]) (cs := cs) (ev_hit hN34 rfl) hokg ⟨(ev_hit hN34 rfl), trivial⟩ (hf i (by omega) _ hb) ?_
  rintro _ w43 ⟨E44, rfl⟩
  have E44 := grown_of_below E44
  have z_w43 := E44.size
  have hl := hl.keep0 E44
  have hb := below_step0 hb E44 hb.size
  rcases Bool.eq_false_or_eq_true ((p (L.getD i default))) with c16 | c16
  ·
   rw [c16]
   refine reg_nil (hK39 _ _ (wp_cond_true (ev_hit hN34 rfl) ?_))
   refine seq_any fun K45 hK45 => one_reg (op_move (ev_hit hN34 rfl) (op_assign (ev_hit hN34 rfl) (reg_nil (hK45 _ _ (wp_ret (blk_ret (then_ret (then_ret (blk_ret (then_ret ( ?_)))))))))))
   refine ret1 rfl hd34 (ev_hit hN34 rfl) ⟨_, rfl, ?_⟩
   exact ⟨hb, congrArg (Value.int .i64) (ixOf_hit (by omega) hall c16).symm⟩
  ·
   rw [c16]
   refine reg_nil (hK39 _ _ (wp_cond_false (ev_hit hN34 rfl) (wp_skip (hK37 _ _ (one_reg (op_add (ev_base hN34 rfl s34_8) rfl (add64 (by omega)) ?_))))))
   refine op_move (ev_hit hN34 rfl) (reg_nil ?_)
   -- round 9T 16F
   exact loop_next _ hN34 hd34 ⟨(i + 1), rfl, (sl_base hN34 rfl s34_0), (sl_base hN34 rfl s34_1), (sl_base hN34 rfl s34_7), (sl_hit hN34 rfl).trans (congrArg (Value.int .i64) (by omega)), (by omega), (all_next hall c16), hb, (by omega), hl⟩ (by omega)
 ·
  refine reg_nil (hK35 _ _ (seq_any fun K46 hK46 => wp_cond_false (ev_hit hN34 rfl) (wp_exit (then_exit (then_exit (blk_hit ?_))))))
  refine hK32 _ _ (seq_any fun K47 hK47 => one_reg (op_assign rfl (reg_nil (hK47 _ _ (wp_ret ?_)))))
  refine ret1 rfl hd34 (ev_hit hN34 rfl) ⟨_, rfl, ?_⟩
  exact ⟨hb, congrArg (Value.int .i64) (ixOf_none (by omega) hall).symm⟩

theorem IdxC {L : List PCol} {v : Value} {p : PCol → Bool} {w : World} (hl : RdC w 0 w.heap.size 3 v L.length (L.flatMap cellsC)) {g : Nat} {fs cs : List Value} (hokg : callOk Try.prog g = true) (hf : ∀ i, i < L.length → ∀ w1, Below w.heap.size w w1 → Ret Try.prog g (fs ++ [(Value.agg #[(Value.string (bs (L.getD i default).nm)), (Value.int .i64 (L.getD i default).kind), (Value.string (bs (L.getD i default).ref))])] ++ cs).toArray w1 (fun v' w' => Below w1.heap.size w1 w' ∧ v' = .bool (p (L.getD i default)))) : Ret Try.prog 97 #[v, (Value.func (.func g) fs.toArray cs.toArray)] w (fun v' w' => Below w.heap.size w w' ∧ v' = .int .i64 (ixOf p L)) := by
 have hlm := rd_len hl
 have hb := Below.refl w.heap.size w
 refine enter (N := 19) Try.func97 rfl rfl (by simp) fun a0 hN hd hA => ?_
 have s0 : a0.tmps.getD 0 undef = v := hA 0 (by simp)
 have s1 : a0.tmps.getD 1 undef = (Value.func (.func g) fs.toArray cs.toArray) := hA 1 (by simp)
 clear hA
 refine seq_any fun K48 hK48 => one_reg (op_assign rfl ?_)
 refine reg_nil (hK48 _ _ (seq_any fun K49 hK49 => seq_any fun K50 hK50 => one_reg (op_move (ev_base hN rfl s0) (op_len_rd Try.underlying41 (ev_hit hN rfl) hl ?_))))
 refine op_move rfl (reg_nil (hK50 _ _ (wp_block ?_)))
 refine loop_m (fun mz_ az_ w' => ∃ (i : Nat), mz_ = L.length - i ∧ (az_.tmps.getD 0 undef = v) ∧ (az_.tmps.getD 1 undef = (Value.func (.func g) fs.toArray cs.toArray)) ∧ (az_.tmps.getD 7 undef = (Value.int .i64 ((L.length : Nat) : Int))) ∧ (az_.tmps.getD 8 undef = (Value.int .i64 ((i : Nat) : Int))) ∧ (i ≤ L.length) ∧ (∀ j, j < i → p (L.getD j default) = false) ∧ (Below w.heap.size w w') ∧ (w.heap.size ≤ w'.heap.size) ∧ (RdC w' 0 w.heap.size 3 v L.length (L.flatMap cellsC))) _ hN hd ⟨0, rfl, (sl_base hN rfl s0), (sl_base hN rfl s1), (sl_hit hN rfl), (sl_hit hN rfl), (Nat.zero_le _), (fun _ h => absurd h (Nat.not_lt_zero _)), hb, (Nat.le_refl _), hl⟩ ?_
 rintro _ a51 w51 hN51 hd51 ⟨i, rfl, s51_0, s51_1, s51_7, s51_8, hi, hall, hb, zl_w51, hl⟩
 have z_w51 := hb.size
 refine seq_any fun K52 hK52 => ?_
 refine one_reg (op_lss (ev_base hN51 rfl s51_8) (ev_base hN51 rfl s51_7) (fun c9 => ?_) (fun c9 => ?_))
 ·
  refine reg_nil ?_
  refine hK52 _ _ (seq_any fun K53 hK53 => wp_cond_true (ev_hit hN51 rfl) (wp_skip (hK53 _ _ (seq_any fun K54 hK54 => wp_block ?_))))
  refine seq_any fun K55 hK55 => one_reg (op_move (ev_base hN51 rfl s51_8) (op_assign (ev_hit hN51 rfl) (reg_nil ?_)))
  refine hK55 _ _ (seq_any fun K56 hK56 => one_reg (op_move (ev_base hN51 rfl s51_1) (op_move (ev_base hN51 rfl s51_0) (op_move (ev_hit hN51 rfl) (op_index_rd slt41 (ev_hit hN51 rfl) hl (ev_hit hN51 rfl) (by omega) (by omega) ?_)))))
  intro b57 o58 h0b57 h1b57 hc59
  refine op_loadA (cs := [(Value.string (bs (L.getD i default).nm)), (Value.int .i64 (L.getD i default).kind), (Value.string (bs (L.getD i default).ref))]) agg68 rfl (ev_hit hN51 rfl) (fun j u hu => hc59 j u (by have := (List.getElem?_eq_some_iff.1 hu).1; simpa using this) ((el_pc (i := i) (by omega) (by omega)) j u hu)) ?_
  refine op_fnv (fs := fs) (vs := [(Value.agg #[(Value.string (bs (L.getD i default).nm)), (Value.int .i64 (L.getD i default).kind), (Value.string (bs (L.getD i default).ref))])]) (cs := cs) (ev_hit hN51 rfl) hokg ⟨(ev_hit hN51 rfl), trivial⟩ (hf i (by omega) _ hb) ?_
  rintro _ w60 ⟨E61, rfl⟩
  have E61 := grown_of_below E61
  have z_w60 := E61.size
  have hl := hl.keep0 E61
  have hb := below_step0 hb E61 hb.size
  rcases Bool.eq_false_or_eq_true ((p (L.getD i default))) with c16 | c16
  ·
   rw [c16]
   refine reg_nil (hK56 _ _ (wp_cond_true (ev_hit hN51 rfl) ?_))
   refine seq_any fun K62 hK62 => one_reg (op_move (ev_hit hN51 rfl) (op_assign (ev_hit hN51 rfl) (reg_nil (hK62 _ _ (wp_ret (blk_ret (then_ret (then_ret (blk_ret (then_ret ( ?_)))))))))))
   refine ret1 rfl hd51 (ev_hit hN51 rfl) ⟨_, rfl, ?_⟩
   exact ⟨hb, congrArg (Value.int .i64) (ixOf_hit (by omega) hall c16).symm⟩
  ·
   rw [c16]
   refine reg_nil (hK56 _ _ (wp_cond_false (ev_hit hN51 rfl) (wp_skip (hK54 _ _ (one_reg (op_add (ev_base hN51 rfl s51_8) rfl (add64 (by omega)) ?_))))))
   refine op_move (ev_hit hN51 rfl) (reg_nil ?_)
   -- round 9T 16F
   exact loop_next _ hN51 hd51 ⟨(i + 1), rfl, (sl_base hN51 rfl s51_0), (sl_base hN51 rfl s51_1), (sl_base hN51 rfl s51_7), (sl_hit hN51 rfl).trans (congrArg (Value.int .i64) (by omega)), (by omega), (all_next hall c16), hb, (by omega), hl⟩ (by omega)
 ·
  refine reg_nil (hK52 _ _ (seq_any fun K63 hK63 => wp_cond_false (ev_hit hN51 rfl) (wp_exit (then_exit (then_exit (blk_hit ?_))))))
  refine hK49 _ _ (seq_any fun K64 hK64 => one_reg (op_assign rfl (reg_nil (hK64 _ _ (wp_ret ?_)))))
  refine ret1 rfl hd51 (ev_hit hN51 rfl) ⟨_, rfl, ?_⟩
  exact ⟨hb, congrArg (Value.int .i64) (ixOf_none (by omega) hall).symm⟩

theorem ofTable_ret (d : DTab) (w : World) : Ret Try.prog 85 #[(Value.agg #[(Value.string (bs d.t.nm)), d.cv, d.iv])] w (fun v' w' => Below w.heap.size w w' ∧ v' = .string (bs d.t.nm)) := by
 have hb := Below.refl w.heap.size w
 refine enter (N := 5) Try.func85 rfl rfl (by simp) fun a0 hN hd hA => ?_
 have s0 : a0.tmps.getD 0 undef = (Value.agg #[(Value.string (bs d.t.nm)), d.cv, d.iv]) := hA 0 (by simp)
 clear hA
 refine seq_any fun K65 hK65 => one_reg (op_box (cs := [(Value.string (bs d.t.nm)), d.cv, d.iv]) (ev_base hN rfl s0) rfl ?_)
 intro w66 b67 lo_b67 hi_b67 hB69 E68
 have z_w66 := E68.size
 have hb := below_step0 hb E68 hb.size
 refine op_assign rfl (reg_nil (hK65 _ _ (seq_any fun K70 hK70 => ?_)))
 refine one_reg (op_field fld55_0 (ev_hit hN rfl) (op_load1 (v := (Value.string (bs d.t.nm))) one9 (ev_hit hN rfl) (hB69.cell rfl) (op_assign (ev_hit hN rfl) (reg_nil (hK70 _ _ (wp_ret ?_))))))
 refine ret1 rfl hd (ev_hit hN rfl) ⟨_, rfl, ?_⟩
 exact ⟨hb, rfl⟩

theorem ofCol_ret (d : PCol) (w : World) : Ret Try.prog 87 #[(Value.agg #[(Value.string (bs d.nm)), (Value.int .i64 d.kind), (Value.string (bs d.ref))])] w (fun v' w' => Below w.heap.size w w' ∧ v' = .string (bs d.nm)) := by
 have hb := Below.refl w.heap.size w
 refine enter (N := 5) Try.func87 rfl rfl (by simp) fun a0 hN hd hA => ?_
 have s0 : a0.tmps.getD 0 undef = (Value.agg #[(Value.string (bs d.nm)), (Value.int .i64 d.kind), (Value.string (bs d.ref))]) := hA 0 (by simp)
 clear hA
 refine seq_any fun K71 hK71 => one_reg (op_box (cs := [(Value.string (bs d.nm)), (Value.int .i64 d.kind), (Value.string (bs d.ref))]) (ev_base hN rfl s0) rfl ?_)
 intro w72 b73 lo_b73 hi_b73 hB75 E74
 have z_w72 := E74.size
 have hb := below_step0 hb E74 hb.size
 refine op_assign rfl (reg_nil (hK71 _ _ (seq_any fun K76 hK76 => ?_)))
 refine one_reg (op_field fld68_0 (ev_hit hN rfl) (op_load1 (v := (Value.string (bs d.nm))) one9 (ev_hit hN rfl) (hB75.cell rfl) (op_assign (ev_hit hN rfl) (reg_nil (hK76 _ _ (wp_ret ?_))))))
 refine ret1 rfl hd (ev_hit hN rfl) ⟨_, rfl, ?_⟩
 exact ⟨hb, rfl⟩

theorem find1Table (d : DTab) (x : List UInt8) {fb nb : Nat} {w : World} (hf9 : Bx w fb 129 [.func (.func 85) #[] #[]]) (hn9 : Bx w nb 9 [.string (bs x)]) : Ret Try.prog 103 #[(Value.agg #[(Value.string (bs d.t.nm)), d.cv, d.iv]), (ptr fb 0), (ptr nb 0)] w (fun v' w' => Below w.heap.size w w' ∧ v' = .bool (decide (d.t.nm = x))) := by
 have hb := Below.refl w.heap.size w
 refine enter (N := 10) Try.func103 rfl rfl (by simp) fun a0 hN hd hA => ?_
 have s0 : a0.tmps.getD 0 undef = (Value.agg #[(Value.string (bs d.t.nm)), d.cv, d.iv]) := hA 0 (by simp)
 have s1 : a0.tmps.getD 1 undef = (ptr fb 0) := hA 1 (by simp)
 have s2 : a0.tmps.getD 2 undef = (ptr nb 0) := hA 2 (by simp)
 clear hA
 refine seq_any fun K77 hK77 => one_reg (op_box (cs := [(Value.string (bs d.t.nm)), d.cv, d.iv]) (ev_base hN rfl s0) rfl ?_)
 intro w78 b79 lo_b79 hi_b79 hB81 E80
 have z_w78 := E80.size
 have hf9 := hf9.keep0 E80
 have hn9 := hn9.keep0 E80
 have hb := below_step0 hb E80 hb.size
 refine op_assign rfl (reg_nil (hK77 _ _ (seq_any fun K82 hK82 => reg_split (hd := [_, _, _, _]) (tl := _) 4 mixed (by kernel_rfl) rfl rfl ?_)))
 refine any_env (φ := phiV [(fun uz => uz = (Value.func (.func 85) #[] #[])), (fun uz => uz = (Value.agg #[(Value.string (bs d.t.nm)), d.cv, d.iv])), (fun _ => True), (fun uz => uz = (Value.string (bs x)))]) (G := fun w' => Bx w' fb 129 [(Value.func (.func 85) #[] #[])] ∧ Bx w' b79 55 [(Value.string (bs d.t.nm)), d.cv, d.iv] ∧ Bx w' nb 9 [(Value.string (bs x))]) [2] (by kernel_rfl) (by kernel_rfl) (by kernel_rfl) (by kernel_rfl) hN (fun w1 w2 E h => by obtain ⟨h0, h1, h2⟩ := h; exact ⟨h0.keep0 E, h1.keep0 E, h2.keep0 E⟩) ⟨hf9, hB81, hn9⟩ (ObEs.cons ?_ (ObEs.cons ?_ (ObEs.pass rfl (ObEs.cons ?_ (ObEs.nil))))) (by simp only [putsL_defers]) ?_
 ·
  intro eA aA wA hNA hGA hbsA hdpA
  have qA_1 := (hbsA 1 rfl).trans (sl_base hN rfl s1)
  obtain ⟨hf9, hB81, hn9⟩ := hGA
  refine op_load1 (v := (Value.func (.func 85) #[] #[])) one129 (ev_base hNA rfl qA_1) (hf9.cell rfl) ?_
  exact obE_end rfl rfl rfl
 ·
  intro eA aA wA hNA hGA hbsA hdpA
  have qA_3 := (hbsA 3 rfl).trans (sl_hit hN rfl)
  obtain ⟨hf9, hB81, hn9⟩ := hGA
  refine op_loadA (cs := [(Value.string (bs d.t.nm)), d.cv, d.iv]) agg55 rfl (ev_base hNA rfl qA_3) (fun j u hu => by rw [Nat.zero_add]; exact hB81.cell hu) ?_
  exact obE_end rfl rfl rfl
 ·
  intro eA aA wA hNA hGA hbsA hdpA
  have qA_2 := (hbsA 2 rfl).trans (sl_base hN rfl s2)
  obtain ⟨hf9, hB81, hn9⟩ := hGA
  refine op_load1 (v := (Value.string (bs x))) one9 (ev_base hNA rfl qA_2) (hn9.cell rfl) ?_
  exact obE_end rfl rfl rfl
 ·
  intro w83 E83 _ a83 hN83 hbs83 hdp83 o_ ho_; obtain rfl := Option.some.inj ho_
  have z_w83 := E83.size
  have hf9 := hf9.keep0 E83
  have hn9 := hn9.keep0 E83
  have hB81 := hB81.keep0 E83
  have hb := below_step0 hb E83 hb.size
  have q83_5 : Sl a83 5 (Value.func (.func 85) #[] #[]) := (hdp83 0 _ 5 (by kernel_rfl) rfl rfl).2 rfl
  have q83_6 : Sl a83 6 (Value.agg #[(Value.string (bs d.t.nm)), d.cv, d.iv]) := (hdp83 1 _ 6 (by kernel_rfl) rfl rfl).2 rfl
  refine op_fnv (fs := []) (vs := [(Value.agg #[(Value.string (bs d.t.nm)), d.cv, d.iv])]) (cs := []) (ev_base hN83 rfl q83_5) ok85 ⟨(ev_base hN83 rfl q83_6), trivial⟩ (ofTable_ret d _) ?_
  rintro _ w84 ⟨E85, rfl⟩
  have E85 := grown_of_below E85
  have z_w84 := E85.size
  have hf9 := hf9.keep0 E85
  have hn9 := hn9.keep0 E85
  have hB81 := hB81.keep0 E85
  have hb := below_step0 hb E85 hb.size
  refine ke_end rfl (by decide) rfl ⟨hf9, hB81, hn9⟩ ?_
  intro w86 E86 a86 hN86 hd86 hbs86 hph86
  have hd86 := hd86.trans ((by simp only [putsL_defers] : _ = _).trans hd)
  have z_w86 := E86.size
  have hn9 := hn9.keep0 E86
  have hb := below_step0 hb E86 hb.size
  have s86_7 : Sl a86 7 (Value.string (bs d.t.nm)) := (Option.some.inj ((hph86 2 _ 7 rfl rfl).1 0 rfl)).symm
  have s86_8 : Sl a86 8 (Value.string (bs x)) := (hph86 3 _ 8 rfl rfl).2 rfl
  refine split_end ?_
  refine from_seq (tl := [_, _]) (by decide) (by kernel_rfl) rfl ?_
  refine op_seql (ev_base hN86 rfl s86_7) (ev_base hN86 rfl s86_8) (fun c9 => ?_) (fun c9 => ?_)
  ·
   refine op_assign (ev_hit hN86 rfl) (reg_nil (hK82 _ _ (wp_ret ?_)))
   refine ret1 rfl hd86 (ev_hit hN86 rfl) ⟨_, rfl, ?_⟩
   exact ⟨hb, congrArg Value.bool (decide_eq_true c9).symm⟩
  ·
   refine op_assign (ev_hit hN86 rfl) (reg_nil (hK82 _ _ (wp_ret ?_)))
   refine ret1 rfl hd86 (ev_hit hN86 rfl) ⟨_, rfl, ?_⟩
   exact ⟨hb, congrArg Value.bool (decide_eq_false c9).symm⟩

theorem findTable {L : List DTab} {v : Value} (x : List UInt8) {w : World} (hl : RdC w 0 w.heap.size 3 v L.length (L.flatMap cellsT)) : Ret Try.prog 84 #[v, (Value.string (bs x)), (Value.func (.func 85) #[] #[])] w (fun v' w' => Below w.heap.size w w' ∧ v' = .int .i64 (ixOf (fun d => decide (d.t.nm = x)) L)) := by
 have hb := Below.refl w.heap.size w
 refine enter (N := 10) Try.func84 rfl rfl (by simp) fun a0 hN hd hA => ?_
 have s0 : a0.tmps.getD 0 undef = v := hA 0 (by simp)
 have s1 : a0.tmps.getD 1 undef = (Value.string (bs x)) := hA 1 (by simp)
 have s2 : a0.tmps.getD 2 undef = (Value.func (.func 85) #[] #[]) := hA 2 (by simp)
 clear hA
 refine seq_any fun K87 hK87 => one_reg (op_box (cs := [(Value.string (bs x))]) (ev_base hN rfl s1) rfl ?_)
 intro w88 b89 lo_b89 hi_b89 hB91 E90
 have z_w88 := E90.size
 have hl := hl.keep0 E90
 have hb := below_step0 hb E90 hb.size
 refine op_box (cs := [(Value.func (.func 85) #[] #[])]) (ev_base hN rfl s2) rfl ?_
 intro w92 b93 lo_b93 hi_b93 hB95 E94
 have z_w92 := E94.size
 have hl := hl.keep0 E94
 have hB91 := hB91.keep0 E94
 have hb := below_step0 hb E94 hb.size
 refine op_assign rfl (reg_nil (hK87 _ _ (seq_any fun K96 hK96 => one_reg (op_move (ev_base hN rfl s0) (op_mkfn (cv := [(ptr b93 0), (ptr b89 0)]) ⟨(ev_hit hN rfl), ⟨(ev_hit hN rfl), trivial⟩⟩ ?_)))))
 refine op_fn (vs := [v, (Value.func (.func 103) #[] #[(ptr b93 0), (ptr b89 0)])]) ok102 ⟨(ev_hit hN rfl), ⟨(ev_hit hN rfl), trivial⟩⟩ (IdxT (g := 103) (fs := []) (cs := [(ptr b93 0), (ptr b89 0)]) (p := (fun d => decide (d.t.nm = x))) (hl.mono (Nat.zero_le _) (by omega)) ok103 (fun i hi w1 E9 => find1Table (L.getD i default) x (hB95.keep0 (grown_of_below E9)) (hB91.keep0 (grown_of_below E9)))) ?_
 rintro _ w97 ⟨E98, rfl⟩
 have E98 := grown_of_below E98
 have z_w97 := E98.size
 have hl := hl.keep0 E98
 have hb := below_step0 hb E98 hb.size
 refine op_assign (ev_hit hN rfl) (reg_nil (hK96 _ _ (wp_ret ?_)))
 refine ret1 rfl hd (ev_hit hN rfl) ⟨_, rfl, ?_⟩
 exact ⟨hb, rfl⟩

theorem find1Col (d : PCol) (x : List UInt8) {fb nb : Nat} {w : World} (hf9 : Bx w fb 131 [.func (.func 87) #[] #[]]) (hn9 : Bx w nb 9 [.string (bs x)]) : Ret Try.prog 104 #[(Value.agg #[(Value.string (bs d.nm)), (Value.int .i64 d.kind), (Value.string (bs d.ref))]), (ptr fb 0), (ptr nb 0)] w (fun v' w' => Below w.heap.size w w' ∧ v' = .bool (decide (d.nm = x))) := by
 have hb := Below.refl w.heap.size w
 refine enter (N := 10) Try.func104 rfl rfl (by simp) fun a0 hN hd hA => ?_
 have s0 : a0.tmps.getD 0 undef = (Value.agg #[(Value.string (bs d.nm)), (Value.int .i64 d.kind), (Value.string (bs d.ref))]) := hA 0 (by simp)
 have s1 : a0.tmps.getD 1 undef = (ptr fb 0) := hA 1 (by simp)
 have s2 : a0.tmps.getD 2 undef = (ptr nb 0) := hA 2 (by simp)
 clear hA
 refine seq_any fun K99 hK99 => one_reg (op_box (cs := [(Value.string (bs d.nm)), (Value.int .i64 d.kind), (Value.string (bs d.ref))]) (ev_base hN rfl s0) rfl ?_)
 intro w100 b101 lo_b101 hi_b101 hB103 E102
 have z_w100 := E102.size
 have hf9 := hf9.keep0 E102
 have hn9 := hn9.keep0 E102
 have hb := below_step0 hb E102 hb.size
 refine op_assign rfl (reg_nil (hK99 _ _ (seq_any fun K104 hK104 => reg_split (hd := [_, _, _, _]) (tl := _) 4 mixed (by kernel_rfl) rfl rfl ?_)))
 refine any_env (φ := phiV [(fun uz => uz = (Value.func (.func 87) #[] #[])), (fun uz => uz = (Value.agg #[(Value.string (bs d.nm)), (Value.int .i64 d.kind), (Value.string (bs d.ref))])), (fun _ => True), (fun uz => uz = (Value.string (bs x)))]) (G := fun w' => Bx w' fb 131 [(Value.func (.func 87) #[] #[])] ∧ Bx w' b101 68 [(Value.string (bs d.nm)), (Value.int .i64 d.kind), (Value.string (bs d.ref))] ∧ Bx w' nb 9 [(Value.string (bs x))]) [2] (by kernel_rfl) (by kernel_rfl) (by kernel_rfl) (by kernel_rfl) hN (fun w1 w2 E h => by obtain ⟨h0, h1, h2⟩ := h; exact ⟨h0.keep0 E, h1.keep0 E, h2.keep0 E⟩) ⟨hf9, hB103, hn9⟩ (ObEs.cons ?_ (ObEs.cons ?_ (ObEs.pass rfl (ObEs.cons ?_ (ObEs.nil))))) (by simp only [putsL_defers]) ?_
 ·
  intro eA aA wA hNA hGA hbsA hdpA
  have qA_1 := (hbsA 1 rfl).trans (sl_base hN rfl s1)
  obtain ⟨hf9, hB103, hn9⟩ := hGA
  refine op_load1 (v := (Value.func (.func 87) #[] #[])) one131 (ev_base hNA rfl qA_1) (hf9.cell rfl) ?_
  exact obE_end rfl rfl rfl
 ·
  intro eA aA wA hNA hGA hbsA hdpA
  have qA_3 := (hbsA 3 rfl).trans (sl_hit hN rfl)
  obtain ⟨hf9, hB103, hn9⟩ := hGA
  refine op_loadA (cs := [(Value.string (bs d.nm)), (Value.int .i64 d.kind), (Value.string (bs d.ref))]) agg68 rfl (ev_base hNA rfl qA_3) (fun j u hu => by rw [Nat.zero_add]; exact hB103.cell hu) ?_
  exact obE_end rfl rfl rfl
 ·
  intro eA aA wA hNA hGA hbsA hdpA
  have qA_2 := (hbsA 2 rfl).trans (sl_base hN rfl s2)
  obtain ⟨hf9, hB103, hn9⟩ := hGA
  refine op_load1 (v := (Value.string (bs x))) one9 (ev_base hNA rfl qA_2) (hn9.cell rfl) ?_
  exact obE_end rfl rfl rfl
 ·
  intro w105 E105 _ a105 hN105 hbs105 hdp105 o_ ho_; obtain rfl := Option.some.inj ho_
  have z_w105 := E105.size
  have hf9 := hf9.keep0 E105
  have hn9 := hn9.keep0 E105
  have hB103 := hB103.keep0 E105
  have hb := below_step0 hb E105 hb.size
  have q105_5 : Sl a105 5 (Value.func (.func 87) #[] #[]) := (hdp105 0 _ 5 (by kernel_rfl) rfl rfl).2 rfl
  have q105_6 : Sl a105 6 (Value.agg #[(Value.string (bs d.nm)), (Value.int .i64 d.kind), (Value.string (bs d.ref))]) := (hdp105 1 _ 6 (by kernel_rfl) rfl rfl).2 rfl
  refine op_fnv (fs := []) (vs := [(Value.agg #[(Value.string (bs d.nm)), (Value.int .i64 d.kind), (Value.string (bs d.ref))])]) (cs := []) (ev_base hN105 rfl q105_5) ok87 ⟨(ev_base hN105 rfl q105_6), trivial⟩ (ofCol_ret d _) ?_
  rintro _ w106 ⟨E107, rfl⟩
  have E107 := grown_of_below E107
  have z_w106 := E107.size
  have hf9 := hf9.keep0 E107
  have hn9 := hn9.keep0 E107
  have hB103 := hB103.keep0 E107
  have hb := below_step0 hb E107 hb.size
  refine ke_end rfl (by decide) rfl ⟨hf9, hB103, hn9⟩ ?_
  intro w108 E108 a108 hN108 hd108 hbs108 hph108
  have hd108 := hd108.trans ((by simp only [putsL_defers] : _ = _).trans hd)
  have z_w108 := E108.size
  have hn9 := hn9.keep0 E108
  have hb := below_step0 hb E108 hb.size
  have s108_7 : Sl a108 7 (Value.string (bs d.nm)) := (Option.some.inj ((hph108 2 _ 7 rfl rfl).1 0 rfl)).symm
  have s108_8 : Sl a108 8 (Value.string (bs x)) := (hph108 3 _ 8 rfl rfl).2 rfl
  refine split_end ?_
  refine from_seq (tl := [_, _]) (by decide) (by kernel_rfl) rfl ?_
  refine op_seql (ev_base hN108 rfl s108_7) (ev_base hN108 rfl s108_8) (fun c9 => ?_) (fun c9 => ?_)
  ·
   refine op_assign (ev_hit hN108 rfl) (reg_nil (hK104 _ _ (wp_ret ?_)))
   refine ret1 rfl hd108 (ev_hit hN108 rfl) ⟨_, rfl, ?_⟩
   exact ⟨hb, congrArg Value.bool (decide_eq_true c9).symm⟩
  ·
   refine op_assign (ev_hit hN108 rfl) (reg_nil (hK104 _ _ (wp_ret ?_)))
   refine ret1 rfl hd108 (ev_hit hN108 rfl) ⟨_, rfl, ?_⟩
   exact ⟨hb, congrArg Value.bool (decide_eq_false c9).symm⟩

theorem findCol {L : List PCol} {v : Value} (x : List UInt8) {w : World} (hl : RdC w 0 w.heap.size 3 v L.length (L.flatMap cellsC)) : Ret Try.prog 86 #[v, (Value.string (bs x)), (Value.func (.func 87) #[] #[])] w (fun v' w' => Below w.heap.size w w' ∧ v' = .int .i64 (ixOf (fun d => decide (d.nm = x)) L)) := by
 have hb := Below.refl w.heap.size w
 refine enter (N := 10) Try.func86 rfl rfl (by simp) fun a0 hN hd hA => ?_
 have s0 : a0.tmps.getD 0 undef = v := hA 0 (by simp)
 have s1 : a0.tmps.getD 1 undef = (Value.string (bs x)) := hA 1 (by simp)
 have s2 : a0.tmps.getD 2 undef = (Value.func (.func 87) #[] #[]) := hA 2 (by simp)
 clear hA
 refine seq_any fun K109 hK109 => one_reg (op_box (cs := [(Value.string (bs x))]) (ev_base hN rfl s1) rfl ?_)
 intro w110 b111 lo_b111 hi_b111 hB113 E112
 have z_w110 := E112.size
 have hl := hl.keep0 E112
 have hb := below_step0 hb E112 hb.size
 refine op_box (cs := [(Value.func (.func 87) #[] #[])]) (ev_base hN rfl s2) rfl ?_
 intro w114 b115 lo_b115 hi_b115 hB117 E116
 have z_w114 := E116.size
 have hl := hl.keep0 E116
 have hB113 := hB113.keep0 E116
 have hb := below_step0 hb E116 hb.size
 refine op_assign rfl (reg_nil (hK109 _ _ (seq_any fun K118 hK118 => one_reg (op_move (ev_base hN rfl s0) (op_mkfn (cv := [(ptr b115 0), (ptr b111 0)]) ⟨(ev_hit hN rfl), ⟨(ev_hit hN rfl), trivial⟩⟩ ?_)))))
 refine op_fn (vs := [v, (Value.func (.func 104) #[] #[(ptr b115 0), (ptr b111 0)])]) ok97 ⟨(ev_hit hN rfl), ⟨(ev_hit hN rfl), trivial⟩⟩ (IdxC (g := 104) (fs := []) (cs := [(ptr b115 0), (ptr b111 0)]) (p := (fun d => decide (d.nm = x))) (hl.mono (Nat.zero_le _) (by omega)) ok104 (fun i hi w1 E9 => find1Col (L.getD i default) x (hB117.keep0 (grown_of_below E9)) (hB113.keep0 (grown_of_below E9)))) ?_
 rintro _ w119 ⟨E120, rfl⟩
 have E120 := grown_of_below E120
 have z_w119 := E120.size
 have hl := hl.keep0 E120
 have hb := below_step0 hb E120 hb.size
 refine op_assign (ev_hit hN rfl) (reg_nil (hK118 _ _ (wp_ret ?_)))
 refine ret1 rfl hd (ev_hit hN rfl) ⟨_, rfl, ?_⟩
 exact ⟨hb, rfl⟩

end Go.Proofs.Ythflnkfghogaoaa
