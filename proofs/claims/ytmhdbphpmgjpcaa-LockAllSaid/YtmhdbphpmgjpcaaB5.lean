/- Walks, written by a program: what each function of the translation hands back. -/
import Derived.Test.YtmhdbphpmgjpcaaProg
import Derived.KernelRfl
import Derived.Test.YtmhdbphpmgjpcaaB4
set_option linter.unusedVariables false
set_option linter.unusedSimpArgs false

namespace Go.Proofs.Ytmhdbphpmgjpcaa
open Go.Gx Go.RowKit
attribute [local irreducible] wpList wpStill Code.wp Calls

section
variable {E : List RE} {n : Int} {U : TX} {i m : Nat}
def dE (n : Int) (U : TX) (e : RE) : RE := (dR n U e.1, e.2)
def dX (E : List RE) (n : Int) (U : TX) (i : Nat) : List RE := (E.take i).map (dE n U) ++ E.drop i
def dK (E : List RE) (n : Int) (U : TX) (i : Nat) : List Int := (((E.take i).map Prod.fst).filter (cR n U)).map Prod.fst
theorem dX_len (h : i ≤ E.length) : (dX E n U i).length = E.length := by unfold dX; simp; omega
theorem dX_all : dX E n U E.length = E.map (dE n U) := by unfold dX; simp
theorem dX_at (h : i < E.length) : (dX E n U i).getD i default = E.getD i default := by
  unfold dX
  rw [List.getD_eq_getElem?_getD, List.getElem?_append_right (by simp; omega), List.length_map, List.length_take, Nat.min_eq_left zx, Nat.sub_self, List.getElem?_drop, Nat.add_zero, ← List.getD_eq_getElem?_getD]
theorem dX_step (h : i < E.length) : dX E n U (i + 1) = (dX E n U i).set i (dE n U (E.getD i default)) := by
  unfold dX
  rw [takeT (d := default) h, List.map_append, List.append_assoc, List.set_append_right _ _ (by simp; omega)]
  congr 1
  rw [List.length_map, List.length_take, Nat.min_eq_left zx, Nat.sub_self, List.drop_eq_getElem_cons h, List.set_cons_zero]
  simp [List.getD_eq_getElem?_getD, h]
theorem dX_no (h : i < E.length) (c : cR n U (E.getD i default).1 = false) : dX E n U (i + 1) = dX E n U i := by
  rw [dX_step h]
  have e : dE n U (E.getD i default) = (dX E n U i).getD i default := by rw [dX_at h]; unfold dE dR; rw [if_neg (by rw [c]; decide)]
  rw [e]
  have hl : i < (dX E n U i).length := by rw [dX_len zx]; exact h
  apply List.ext_getElem (by simp)
  intro q h1 h2
  rw [List.getElem_set]
  split
  · rename_i e2; subst e2; simp [List.getD_eq_getElem?_getD, hl]
  · rfl
theorem set_dX (h : i < E.length) (c : cR n U (E.getD i default).1 = true) : ((dX E n U i).flatMap cellsRE).take (i * 6 + 5) ++ [Value.bool true] ++ ((dX E n U i).flatMap cellsRE).drop (i * 6 + 5 + 1) = (dX E n U (i + 1)).flatMap cellsRE := by
  rw [dX_step h]
  exact set_re1 (by rw [dX_len zx]; exact h) zz (by rw [dX_at h]; unfold dE dR; rw [if_pos c]; rfl)
theorem dX_at1 (h : i < E.length) : (dX E n U (i + 1)).getD i default = dE n U (E.getD i default) := by
  rw [dX_step h, getD_set (by rw [dX_len zx]; exact h), if_pos rfl]
theorem dK_no (h : i < E.length) (c : cR n U (E.getD i default).1 = false) : dK E n U (i + 1) = dK E n U i := by
  unfold dK; rw [takeT (d := default) h, List.map_append, List.filter_append, List.map_append, List.map_cons, List.map_nil, List.filter_cons_of_neg (by rw [c]; decide), List.filter_nil, List.map_nil, List.append_nil]
theorem dK_yes (h : i < E.length) (c : cR n U (E.getD i default).1 = true) : dK E n U (i + 1) = dK E n U i ++ [(E.getD i default).1.1] := by
  unfold dK; rw [takeT (d := default) h, List.map_append, List.filter_append, List.map_append, List.map_cons, List.map_nil, List.filter_cons_of_pos c, List.filter_nil, List.map_cons, List.map_nil]
theorem dK_len (h : i ≤ E.length) : (dK E n U i).length ≤ i := by
  unfold dK; rw [List.length_map]; exact Nat.le_trans (List.length_filter_le _ _) (by simp; omega)
theorem dE_key (e : RE) : (dE n U e).1.1 = e.1.1 := dR_key
theorem dX_key (hq : m < E.length) : ((dX E n U E.length).getD m default).1.1 = (E.getD m default).1.1 := by
  rw [dX_all]
  have : (E.map (dE n U)).getD m default = dE n U (E.getD m default) := by simp [List.getD_eq_getElem?_getD, hq]
  rw [this, dE_key]
theorem dX_one (h : (E.flatMap cellsRE).all Value.oneCell' = true) : ((dX E n U E.length).flatMap cellsRE).all Value.oneCell' = true := List.all_eq_true.2 fun v hv => by
  rw [dX_all] at hv
  obtain ⟨a, ha, h2⟩ := List.mem_flatMap.1 hv
  obtain ⟨e, he, rfl⟩ := List.mem_map.1 ha
  have h3 := fun v hv => List.all_eq_true.1 h v (List.mem_flatMap.2 ⟨e, he, hv⟩)
  simp only [cellsRE, List.mem_cons, List.not_mem_nil, or_false] at h2
  rcases h2 with rfl | rfl | rfl | rfl | rfl | rfl
  · rfl
  · exact h3 _ (by simp [cellsRE, dE])
  · rfl
  · exact h3 _ (by simp [cellsRE, dE])
  · exact h3 _ (by simp [cellsRE, dE])
  · rfl
theorem el_dX {e : Int} (he : e = (i : Int)) (h : i < E.length) : ∀ j u, ([.int .i64 (E.getD i default).1.1, (E.getD i default).2.la, .int .u64 (E.getD i default).1.2.stamp, (E.getD i default).2.rv, (E.getD i default).2.wv, .bool (E.getD i default).1.2.doomed] : List Value)[j]? = some u → ((dX E n U i).flatMap cellsRE)[e.toNat * 6 + j]? = some u := by
  have := el_re (E := dX E n U i) he (by rw [dX_len zx]; exact h); rw [dX_at h] at this; exact this
theorem el_dX1 {e : Int} (he : e = (i : Int)) (h : i < E.length) : ∀ j u, ([.int .i64 (E.getD i default).1.1, (E.getD i default).2.la, .int .u64 (dE n U (E.getD i default)).1.2.stamp, (E.getD i default).2.rv, (E.getD i default).2.wv, .bool (dE n U (E.getD i default)).1.2.doomed] : List Value)[j]? = some u → ((dX E n U (i + 1)).flatMap cellsRE)[e.toNat * 6 + j]? = some u := by
  have := el_re (E := dX E n U (i + 1)) (i := i) he (by rw [dX_len zx]; exact h); rw [dX_at1 h, dE_key] at this; exact this
def hitK (U : TX) (R : List (List UInt8 × List UInt16)) (k : Nat) : Bool := (U.writes.take k).any fun s => covB R s U.label
theorem hitK_step {R : List (List UInt8 × List UInt16)} {k : Nat} (h : k < U.writes.length) : hitK U R (k + 1) = (hitK U R k || covB R (U.writes.getD k []) U.label) := by unfold hitK; rw [takeT (d := []) h, List.any_append, List.any_cons, List.any_nil, Bool.or_false]
theorem cR_of {R : List (List UInt8 × List UInt16)} {k : Nat} (hD : R = (E.getD i default).1.2.reads) (h : U.writes.length ≤ k) : cR n U (E.getD i default).1 = (decide ((E.getD i default).1.1 ≠ n) && (hitK U R k && (flowsL U.label (E.getD i default).1.2.label && !decide (U.label = (E.getD i default).1.2.label)))) := by
  subst hD; unfold cR hitK; rw [List.take_of_length_le h]
end

theorem raboveW_ret (l m : Lb) (v u : Value) (w : World) (hz : l.length ≤ 1000000000000) (hzm : m.length ≤ 1000000000000) (hl : RdC w 0 w.heap.size 1 v l.length (l.map u16v)) (hm : RdC w 0 w.heap.size 1 u m.length (m.map u16v)) : Ret Try.prog 61 #[v, u] w (fun v' w' => Below w.heap.size w w' ∧ v' = .bool (flowsL l m && !decide (l = m))) := by
 have hb := Below.refl w.heap.size w
 refine enter (N := 14) Try.func61 rfl rfl (by simp) fun a hN hd hA => ?_
 have c : a.tmps.getD 0 undef = v := hA 0 (by simp)
 have d : a.tmps.getD 1 undef = u := hA 1 (by simp)
 clear hA
 refine zF fun _ a => zH (zD rfl ?_)
 refine zB (a _ _ (zF fun _ a => zH (zG (zC hN rfl c) (zG (zC hN rfl d) (zj ok50 (rflowsW_ret l m _ _ _ (by first | assumption | omega | (simp only [List.length_append, List.length_cons, List.length_nil, List.length_drop, List.length_take]; omega) | (dsimp only; omega) | decide | (simp [keyV, be8_len]; done)) (by first | assumption | omega | (simp only [List.length_append, List.length_cons, List.length_nil, List.length_drop, List.length_take]; omega) | (dsimp only; omega) | decide | (simp [keyV, be8_len]; done)) (show RdC w 0 w.heap.size 1 v l.length (l.map u16v) from by have hh : RdC w 0 w.heap.size 1 _ _ _ := (hl.mono (L' := 0) (B' := w.heap.size) (Nat.zero_le _) zx); first | exact hh | exact hh.cast (by first | omega | (simp; try omega)) (by first | rfl | simp [u16v])) (show RdC w 0 w.heap.size 1 u m.length (m.map u16v) from by have hh : RdC w 0 w.heap.size 1 _ _ _ := (hm.mono (L' := 0) (B' := w.heap.size) (Nat.zero_le _) zx); first | exact hh | exact hh.cast (by first | omega | (simp; try omega)) (by first | rfl | simp [u16v]))) ⟨(zA hN rfl), ⟨(zA hN rfl), trivial⟩⟩ ?_)))))
 rintro _ e ⟨f, rfl⟩
 have f := zQ f
 obtain ⟨hb, _⟩ := yE hb f
 have hl := hl.keep0 f
 have hm := hm.keep0 f
 rcases Bool.eq_false_or_eq_true ((flowsL l m)) with f | f
 ·
  rw [f]
  refine zG (zA hN rfl) ?_
  refine zS (j := 3) (dj := 8) (b := true) rfl rfl rfl (zA hN rfl) (zG (zC hN rfl c) (zS (j := 3) (dj := 8) (b := true) rfl rfl rfl (zA hN rfl) (zG (zC hN rfl d) (zS (j := 3) (dj := 8) (b := true) rfl rfl rfl (zA hN rfl) (zj ok34 (sameL_ret l m _ _ _ (by first | assumption | omega | (simp only [List.length_append, List.length_cons, List.length_nil, List.length_drop, List.length_take]; omega) | (dsimp only; omega) | decide | (simp [keyV, be8_len]; done)) (by first | assumption | omega | (simp only [List.length_append, List.length_cons, List.length_nil, List.length_drop, List.length_take]; omega) | (dsimp only; omega) | decide | (simp [keyV, be8_len]; done)) (show RdC e 0 e.heap.size 1 v l.length (l.map u16v) from by have hh : RdC e 0 e.heap.size 1 _ _ _ := (hl.mono (L' := 0) (B' := e.heap.size) (Nat.zero_le _) zx); first | exact hh | exact hh.cast (by first | omega | (simp; try omega)) (by first | rfl | simp [u16v])) (show RdC e 0 e.heap.size 1 u m.length (m.map u16v) from by have hh : RdC e 0 e.heap.size 1 _ _ _ := (hm.mono (L' := 0) (B' := e.heap.size) (Nat.zero_le _) zx); first | exact hh | exact hh.cast (by first | omega | (simp; try omega)) (by first | rfl | simp [u16v]))) ⟨(zA hN rfl), ⟨(zA hN rfl), trivial⟩⟩ ?_)))))
  rintro _ d ⟨c, rfl⟩
  have c := zQ c
  obtain ⟨hb, _⟩ := yE hb c
  have hl := hl.keep0 c
  rcases Bool.eq_false_or_eq_true ((decide (l = m))) with c | c
  ·
   rw [c]
   refine zS (j := 3) (dj := 8) (b := true) rfl rfl rfl (zA hN rfl) (op_not (zA hN rfl) (zc (zA hN rfl) (zA hN rfl) (zD (zA hN rfl) (zB (a _ _ (wp_ret (ret1 rfl hd (zA hN rfl) ⟨_, rfl, ?_⟩)))))))
   exact ⟨hb, congrArg Value.bool (by rw [f]; simp [c])⟩
  rw [c]
  refine zS (j := 3) (dj := 8) (b := true) rfl rfl rfl (zA hN rfl) (op_not (zA hN rfl) (zc (zA hN rfl) (zA hN rfl) (zD (zA hN rfl) (zB (a _ _ (wp_ret (ret1 rfl hd (zA hN rfl) ⟨_, rfl, ?_⟩)))))))
  exact ⟨hb, congrArg Value.bool (by rw [f]; simp [c])⟩
 rw [f]
 refine zG (zA hN rfl) (zR (j := 3) (dj := 8) (b := true) rfl rfl rfl (zA hN rfl) rfl rfl (zR (j := 3) (dj := 8) (b := true) rfl rfl rfl (zA hN rfl) rfl rfl (zR (j := 3) (dj := 8) (b := true) rfl rfl rfl (zA hN rfl) rfl rfl (zR (j := 3) (dj := 8) (b := true) rfl rfl rfl (zA hN rfl) rfl rfl (zd (zA hN rfl) rfl (zD (zA hN rfl) (zB (a _ _ (wp_ret (ret1 rfl hd (zA hN rfl) ⟨_, rfl, ?_⟩))))))))))
 exact ⟨hb, congrArg Value.bool (by rw [f]; rfl)⟩

theorem Com_miss9 {E : List RE} {r base : Nat} {lv : Value} {n : Int} {w : World} (hbase : base ≤ w.heap.size) (hx : Bx w r 117 [lv]) (O : Own w base 177 6 lv E.length (E.flatMap cellsRE)) (hE9 : E.length ≤ 100000) (hm : ∀ q, q < E.length → (E.getD q default).1.1 ≠ n)  : Ret Try.prog 65 #[(ptr r 0), (.int .i64 n)] w (fun v' w' => Below w.heap.size w w' ∧ v' = .tuple #[.slice none 0 0, .int .i64 18]) := by
 have hb := Below.refl w.heap.size w
 refine enter (N := 99) Try.func65 rfl rfl (by simp) fun a hN hd hA => ?_
 have b : a.tmps.getD 0 undef = (ptr r 0) := hA 0 (by simp)
 have c : a.tmps.getD 1 undef = (.int .i64 n) := hA 1 (by simp)
 clear hA
 refine zF fun _ a => zH (zD rfl (zD rfl ?_))
 refine zB (a _ _ (zF fun _ a => zH (zG (zC hN rfl b) (zG (zC hN rfl c) (zj ok110 (Find_miss9 zx hx O zx hm) ⟨(zA hN rfl), ⟨(zA hN rfl), trivial⟩⟩ ?_)))))
 rintro _ c ⟨b, rfl⟩
 have b := zQ b
 obtain ⟨hb, _⟩ := yE hb b
 refine zD (zA hN rfl) (zB (a _ _ (zF fun _ a => zF fun _ b => ?_)))
 refine zH (zG (zA hN rfl) (op_bin (v := .bool true) (zA hN rfl) rfl (by rw [binOp_lss]; rfl) (zB (b _ _ (wp_cond_true (zA hN rfl) (zF fun _ b => zH (zD rfl (zD rfl (zB (b _ _ (wp_ret (zO ( (ret2 rfl hd (zA hN rfl) (zA hN rfl) ⟨_, rfl, ?_⟩))))))))))))))
 exact ⟨hb, rfl⟩

theorem Com_hit9 {E : List RE} {r base m : Nat} {lv la rv wv : Value} {n : Int} {U : TX} {D : List RD} {FA : Nat → Prop} {w : World} (hbase : base ≤ w.heap.size) (hx : Bx w r 117 [lv]) (O : Own w base 177 6 lv E.length (E.flatMap cellsRE)) (hE9 : E.length ≤ 100000) (hj : m < E.length) (hej : E.getD m default = ((n, U), ⟨la, rv, wv, D⟩)) (hu : ∀ q, q < E.length → (E.getD q default).1.1 = n → q = m) (hA9 : RfAll w base w.heap.size E FA) (hE8 : ∀ e ∈ E, e.1.2.label.length ≤ 8 ∧ ∀ r ∈ e.2.D, r.lab.length ≤ 8) (hLa : Own w base 46 1 la U.label.length (U.label.map u16v)) (hR : Own w base 181 2 rv D.length (D.flatMap cellsRd)) (hW : Own w base 9 1 wv U.writes.length (U.writes.map sv)) (hn9 : U.writes.length ≤ 100000) (hone : (E.flatMap cellsRE).all Value.oneCell' = true)  : Ret Try.prog 65 #[(ptr r 0), (.int .i64 n)] w (fun v' w' => Gr w w' (fun y => y = r ∨ Bl lv y) ∧ ∃ dv lv', v' = .tuple #[dv, .int .i64 0] ∧ Own w' w.heap.size 3 1 dv (dK E n U E.length).length ((dK E n U E.length).map (Value.int .i64)) ∧ Bx w' r 117 [lv'] ∧ Own w' w.heap.size 177 6 lv' (E.length - 1) (((dX E n U E.length).take m ++ (dX E n U E.length).drop (m + 1)).flatMap cellsRE)) := by
 have hi_r := hx.lt
 have hn : (E.getD m default).1.1 = n := by rw [hej]
 have hUl : U.label.length ≤ 8 := by have := (hE8 _ (getD_mem (d := default) hj)).1; rw [hej] at this; exact this
 have hb := Gr.refl w (fun y => y = r ∨ Bl lv y)
 refine enter (N := 99) Try.func65 rfl rfl (by simp) fun a hN hd hA => ?_
 have c : a.tmps.getD 0 undef = (ptr r 0) := hA 0 (by simp)
 have f : a.tmps.getD 1 undef = (.int .i64 n) := hA 1 (by simp)
 clear hA
 refine zF fun _ g => zH (zD rfl (zD rfl ?_))
 refine zB (g _ _ (zF fun _ g => zH (zG (zC hN rfl c) (zG (zC hN rfl f) (zj ok110 (Find_hit9 (j := m) zx hx O zx hj hn hu) ⟨(zA hN rfl), ⟨(zA hN rfl), trivial⟩⟩ ?_)))))
 rintro _ o ⟨l, rfl⟩
 have l := zQ l
 obtain ⟨hb, _⟩ := yG hb l
 have hx := hx.keep0 l
 have O := O.keep0 l
 have hA9 := hA9.kz l
 have hLa := hLa.keep0 l
 have hR := hR.keep0 l
 have hW := hW.keep0 l
 refine zD (zA hN rfl) (zB (g _ _ (zF fun _ g => zF fun _ p => zH (zG (zA hN rfl) (op_lss (zA hN rfl) rfl (fun s => ?_) (fun s => ?_))))))
 ·
  exact absurd s zx
 refine zB (p _ _ (wp_cond_false (zA hN rfl) (wp_skip (g _ _ (zF fun _ g => zH (zG (zC hN rfl c) (op_nil (zA hN rfl) (zM fld117_0 (zA hN rfl) (zN one115 (zA hN rfl) (hx.cell rfl) (zG (zA hN rfl) (zh slt115 (zA hN rfl) O.rdw (zA hN rfl) zx zx ?_)))))))))))
 intro B A x z t
 refine zX (cs := [(.int .i64 n), la, (.int .u64 U.stamp), rv, wv, (.bool U.doomed)]) agg177 rfl (zA hN rfl) (fun j u hu => t j u (by have := (List.getElem?_eq_some_iff.1 hu).1; simpa using this) ((el_reJ (i := m) hej zx zx) j u hu)) (op_alloc (cs := [(.int .i64 0), (.slice none 0 0), (.int .u64 0), (.slice none 0 0), (.slice none 0 0), (.bool false)]) zero177 rfl ?_)
 intro I G H J C F
 have K : ¬ FA G := fun hf => by have := (hA9.lt _ hf).2; omega
 have L : lv.ownBlock ≠ some G := fun hh => by have := (O.lt _ hh).2; omega
 obtain ⟨hb, _⟩ := yG hb F
 have hx := hx.keep0 F
 have hLa := hLa.keep0 F
 have hR := hR.keep0 F
 have hW := hW.keep0 F
 have M := C
 refine zZ size177 (zA hN rfl) (zA hN rfl) rfl (by simp only [yA, yB, yC, yD, hLa.one, hR.one, hW.one]; try rfl) C rfl ?_
 intro Q C P
 have := P.size
 have hx := hx.keep P (sN hx M)
 have O := (O.keep0 F).keep P (.inr L)
 have hA9 := (hA9.kz F).keepG (Gr.of P) (Dj.one K)
 have hLa := hLa.keepX M P zz
 have hR := hR.keepX M P zz
 have hW := hW.keepX M P zz
 have hb := hb.step1 P zx
 refine zB (g _ _ (zF fun _ g => ?_))
 refine zH (zD rfl (zB (g _ _ (zF fun _ g => zF fun _ p => zH (zD rfl (zB (p _ _ (wp_block (loop_m (fun mz_ az_ w' => ∃ (i : Nat) (dv : Value), mz_ = E.length - i ∧ (Sl az_ 0 (ptr r 0)) ∧ (Sl az_ 1 (.int .i64 n)) ∧ (Sl az_ 4 (.slice none 0 0)) ∧ (Sl az_ 5 (.int .i64 0)) ∧ (Sl az_ 6 (.int .i64 ((m : Nat) : Int))) ∧ (Sl az_ 7 (ptr G 0)) ∧ (Sl az_ 9 (.int .i64 ((i : Nat) : Int))) ∧ (Sl az_ 8 dv) ∧ (i ≤ E.length) ∧ (Gr w w' (fun y => y = r ∨ Bl lv y)) ∧ (Q.heap.size ≤ w'.heap.size) ∧ (Bx w' r 117 [lv]) ∧ (RfAll w' base w.heap.size E FA) ∧ (Own w' base 46 1 la U.label.length (U.label.map u16v)) ∧ (Own w' base 181 2 rv D.length (D.flatMap cellsRd)) ∧ (Own w' base 9 1 wv U.writes.length (U.writes.map sv)) ∧ (Bx w' G 177 [(.int .i64 n), la, (.int .u64 U.stamp), rv, wv, (.bool U.doomed)]) ∧ (Own w' base 177 6 lv E.length ((dX E n U i).flatMap cellsRE)) ∧ (Own w' w.heap.size 3 1 dv (dK E n U i).length ((dK E n U i).map (Value.int .i64)))) _ hN hd ⟨0, (.slice none 0 0), rfl, (zL hN rfl c), (zL hN rfl f), (zU hN rfl), (zU hN rfl), (zU hN rfl), (zU hN rfl), (zU hN rfl), (zU hN rfl), (Nat.zero_le _), hb, (Nat.le_refl _), hx, hA9, hLa, hR, hW, C, O, (Own.nil _ _ _ _)⟩ ?_)))))))))
 rintro _ ag aa R X ⟨i, dv, rfl, V, Z, ad, ab, ac, ae, Y, W, hi, hb, af, hx, hA9, hLa, hR, hW, C, T, S⟩
 have := hb.size
 refine zF fun _ p => zF fun _ J2 => zH (zG (zC R rfl Y) (zG (zC R rfl V) (op_nil (zA R rfl) (zM fld117_0 (zA R rfl) (zN one115 (zA R rfl) (hx.cell rfl) (op_len_rd Try.underlying115 (zA R rfl) T.rdw (op_lss (zA R rfl) (zA R rfl) (fun ah => ?_) (fun ah => ?_))))))))
 ·
  refine zB (J2 _ _ (wp_cond_true (zA R rfl) (wp_skip (p _ _ (zF fun _ p => wp_block (zF fun _ J2 => ?_))))))
  refine zH (zD rfl (zB (J2 _ _ (zF fun _ J2 => zF fun _ J3 => zH (zD rfl (zB (J3 _ _ (wp_block (loop_m (fun mz_ az_ w' => ∃ (k : Nat), mz_ = U.writes.length - k ∧ (Sl az_ 0 (ptr r 0)) ∧ (Sl az_ 1 (.int .i64 n)) ∧ (Sl az_ 4 (.slice none 0 0)) ∧ (Sl az_ 5 (.int .i64 0)) ∧ (Sl az_ 6 (.int .i64 ((m : Nat) : Int))) ∧ (Sl az_ 7 (ptr G 0)) ∧ (Sl az_ 8 dv) ∧ (Sl az_ 9 (.int .i64 ((i : Nat) : Int))) ∧ (Sl az_ 11 (.int .i64 ((k : Nat) : Int))) ∧ (Sl az_ 10 (.bool (hitK U ((E.getD i default).2.D.map rOf) k))) ∧ (k ≤ U.writes.length) ∧ (Gr w w' (fun y => y = r ∨ Bl lv y)) ∧ (aa.heap.size ≤ w'.heap.size) ∧ (Bx w' r 117 [lv]) ∧ (RfAll w' base w.heap.size E FA) ∧ (Own w' base 46 1 la U.label.length (U.label.map u16v)) ∧ (Own w' base 181 2 rv D.length (D.flatMap cellsRd)) ∧ (Own w' base 9 1 wv U.writes.length (U.writes.map sv)) ∧ (Bx w' G 177 [(.int .i64 n), la, (.int .u64 U.stamp), rv, wv, (.bool U.doomed)]) ∧ (Own w' base 177 6 lv E.length ((dX E n U i).flatMap cellsRE)) ∧ (Own w' w.heap.size 3 1 dv (dK E n U i).length ((dK E n U i).map (Value.int .i64)))) _ R X ⟨0, rfl, (zL R rfl V), (zL R rfl Z), (zL R rfl ad), (zL R rfl ab), (zL R rfl ac), (zL R rfl ae), (zL R rfl W), (zL R rfl Y), (zU R rfl), (zU R rfl), (Nat.zero_le _), hb, (Nat.le_refl _), hx, hA9, hLa, hR, hW, C, T, S⟩ ?_)))))))))
  rintro _ ax ay ai aq ⟨k, rfl, ak, ap, ao, ar, am, al, an, aj, au, av, hk, hb, aw, hx, hA9, hLa, hR, hW, C, T, S⟩
  have := hb.size
  refine zF fun _ J3 => zF fun _ J4 => zH ?_
  have aw : i < E.length := by omega
  obtain ⟨hLi, hRi, hDi, hWi, hDe⟩ := hA9.rds aw
  have ax := hE8 _ (getD_mem (d := default) aw)
  have ay := ax.1
  refine zG (zC ai rfl au) (zM fld177_4 (zC ai rfl al) (zN one26 (zA ai rfl) (C.cell rfl) (op_len_rd Try.underlying26 (zA ai rfl) hW.rdw (op_lss (zA ai rfl) (zA ai rfl) (fun ay => ?_) (fun ay => ?_)))))
  ·
   refine zB (J4 _ _ (wp_cond_true (zA ai rfl) (wp_skip (J3 _ _ (zF fun _ J3 => wp_block (reg_from mixed ?_))))))
   intro az ay
   obtain ⟨hb, _⟩ := yG hb ay
   have hx := hx.keep0 ay
   have hA9 := hA9.kz ay
   have hLa := hLa.keep0 ay
   have hR := hR.keep0 ay
   have hW := hW.keep0 ay
   have C := C.keep0 ay
   have T := T.keep0 ay
   have S := S.keep0 ay
   have hRi := hRi.keep0 ay
   have hDi := all9 hDi fun _ h => h.keep0 ay
   refine from_still (m := 16) 16 (hd := [_, _, _, _, _, _, _, _, _, _, _, _, _, _, _, _]) zy rfl rfl (st_step rfl (fun _ h9 => zG (zC ai rfl av) h9) ?_)
   rcases Bool.eq_false_or_eq_true ((hitK U ((E.getD i default).2.D.map rOf) k)) with ay | ay
   ·
    rw [ay]
    refine st_step rfl (fun _ h9 => zG (zA ai rfl) h9) (st_g_false (j := 1) (dj := 41) (b := false) rfl rfl rfl (zA ai rfl) rfl rfl (st_g_false (j := 1) (dj := 41) (b := false) rfl rfl rfl (zA ai rfl) rfl rfl (st_g_false (j := 1) (dj := 41) (b := false) rfl rfl rfl (zA ai rfl) rfl rfl (st_g_false (j := 1) (dj := 41) (b := false) rfl rfl rfl (zA ai rfl) rfl rfl (st_g_false (j := 1) (dj := 41) (b := false) rfl rfl rfl (zA ai rfl) rfl rfl ?_)))))
    refine st_g_false (j := 1) (dj := 41) (b := false) rfl rfl rfl (zA ai rfl) rfl rfl (st_g_false (j := 1) (dj := 41) (b := false) rfl rfl rfl (zA ai rfl) rfl rfl (st_g_false (j := 1) (dj := 41) (b := false) rfl rfl rfl (zA ai rfl) rfl rfl (st_g_false (j := 1) (dj := 41) (b := false) rfl rfl rfl (zA ai rfl) rfl rfl (st_g_false (j := 1) (dj := 41) (b := false) rfl rfl rfl (zA ai rfl) rfl rfl (st_g_false (j := 1) (dj := 41) (b := false) rfl rfl rfl (zA ai rfl) rfl rfl (st_g_false (j := 1) (dj := 41) (b := false) rfl rfl rfl (zA ai rfl) rfl rfl (st_g_false (j := 1) (dj := 41) (b := false) rfl rfl rfl (zA ai rfl) rfl rfl (st_g_false (j := 1) (dj := 41) (b := false) rfl rfl rfl (zA ai rfl) rfl rfl (st_nil ?_)))))))))
    refine from_seq (tl := [_, _, _]) zz zy rfl (zR (j := 1) (dj := 41) (b := false) rfl rfl rfl (zA ai rfl) rfl rfl (zc (zA ai rfl) rfl (zD (zA ai rfl) (zB (J3 _ _ (zH (zG (zC ai rfl au) (op_add (zA ai rfl) rfl (add64 zx) (zD (zA ai rfl) (zB ?_))))))))))
    -- round 16F 30T 37T 40T
    exact zg _ ai aq ⟨(k + 1), rfl, (zL ai rfl ak), (zL ai rfl ap), (zL ai rfl ao), (zL ai rfl ar), (zL ai rfl am), (zL ai rfl al), (zL ai rfl an), (zL ai rfl aj), (zU ai rfl).trans (congrArg (Value.int .i64) zx), (zU ai rfl).trans (congrArg Value.bool (by rw [hitK_step zx, ay]; rfl)), zx, hb, zx, hx, hA9, hLa, hR, hW, C, T, S⟩ zx
   rw [ay]
   refine st_step rfl (fun _ h9 => zG (zA ai rfl) h9) (st_g_true (j := 1) (dj := 41) (b := false) rfl rfl rfl (zA ai rfl) (st_step rfl (fun _ h9 => zG (zC ai rfl ak) h9) ?_))
   refine st_g_true (j := 1) (dj := 41) (b := false) rfl rfl rfl (zA ai rfl) (st_step rfl (fun _ h9 => op_nil (zA ai rfl) h9) (st_g_true (j := 1) (dj := 41) (b := false) rfl rfl rfl (zA ai rfl) (st_step rfl (fun _ h9 => zM fld117_0 (zA ai rfl) h9) (st_g_true (j := 1) (dj := 41) (b := false) rfl rfl rfl (zA ai rfl) (st_step rfl (fun _ h9 => zN one115 (zA ai rfl) (hx.cell rfl) h9) (st_g_true (j := 1) (dj := 41) (b := false) rfl rfl rfl (zA ai rfl) (st_step rfl (fun _ h9 => zG (zC ai rfl aj) h9) (st_g_true (j := 1) (dj := 41) (b := false) rfl rfl rfl (zA ai rfl) (st_index_rd slt115 (zA ai rfl) T.rdw (zA ai rfl) zx zx ?_)))))))))
   intro aC aB aA aD az
   refine st_g_true (j := 1) (dj := 41) (b := false) rfl rfl rfl (zA ai rfl) (st_step rfl (fun _ h9 => zX (cs := [(.int .i64 (E.getD i default).1.1), (E.getD i default).2.la, (.int .u64 (E.getD i default).1.2.stamp), (E.getD i default).2.rv, (E.getD i default).2.wv, (.bool (E.getD i default).1.2.doomed)]) agg177 rfl (zA ai rfl) (fun j u hu => az j u (by have := (List.getElem?_eq_some_iff.1 hu).1; simpa using this) ((el_dX (i := i) zx zx) j u hu)) h9) (st_g_true (j := 1) (dj := 41) (b := false) rfl rfl rfl (zA ai rfl) (st_step rfl (fun _ h9 => zM fld177_4 (zC ai rfl al) h9) (st_g_true (j := 1) (dj := 41) (b := false) rfl rfl rfl (zA ai rfl) (st_step rfl (fun _ h9 => zN one26 (zA ai rfl) (C.cell rfl) h9) (st_g_true (j := 1) (dj := 41) (b := false) rfl rfl rfl (zA ai rfl) (st_step rfl (fun _ h9 => zG (zC ai rfl au) h9) (st_g_true (j := 1) (dj := 41) (b := false) rfl rfl rfl (zA ai rfl) (st_index_rd slt26 (zA ai rfl) hW.rdw (zA ai rfl) zx zx ?_)))))))))
   intro aC aD aB aA az
   refine st_g_true (j := 1) (dj := 41) (b := false) rfl rfl rfl (zA ai rfl) (st_step rfl (fun _ h9 => zN (v := (Value.string (bs (U.writes.getD k [])))) one9 (zA ai rfl) (by have := az 0 (.string (bs (U.writes.getD k []))) zz (el_sv (i := k) zx zx); simpa using this) h9) (st_g_true (j := 1) (dj := 41) (b := false) rfl rfl rfl (zA ai rfl) (st_step rfl (fun _ h9 => zM fld177_1 (zC ai rfl al) h9) ?_)))
   refine st_g_true (j := 1) (dj := 41) (b := false) rfl rfl rfl (zA ai rfl) (st_step rfl (fun _ h9 => zN one54 (zA ai rfl) (C.cell rfl) h9) (st_nil (from_seq (tl := [_, _, _]) zz zy rfl (zS (j := 1) (dj := 41) (b := false) rfl rfl rfl (zA ai rfl) (zj ok111 (covers9 (hRi.mono (Nat.zero_le _) zx) (fun x9 az => (hDi x9 az).mono (Nat.zero_le _) (by have := hb.size; omega)) ax.2 (hLa.rdw.mono (Nat.zero_le _) zx) zx) ⟨(zA ai rfl), ⟨(zA ai rfl), ⟨(zA ai rfl), trivial⟩⟩⟩ ?_)))))
   rintro _ az ⟨ax, rfl⟩
   have ax := zQ ax
   obtain ⟨hb, _⟩ := yG hb ax
   have hx := hx.keep0 ax
   have hA9 := hA9.kz ax
   have hLa := hLa.keep0 ax
   have hR := hR.keep0 ax
   have hW := hW.keep0 ax
   have C := C.keep0 ax
   have T := T.keep0 ax
   have S := S.keep0 ax
   rcases Bool.eq_false_or_eq_true ((covB ((E.getD i default).2.D.map rOf) (U.writes.getD k []) U.label)) with ax | ax
   ·
    rw [ax]
    refine zd (zA ai rfl) (zA ai rfl) (zD (zA ai rfl) (zB (J3 _ _ (zH (zG (zC ai rfl au) (op_add (zA ai rfl) rfl (add64 zx) (zD (zA ai rfl) (zB ?_))))))))
    -- round 16F 30T 37T 40F 56T
    exact zg _ ai aq ⟨(k + 1), rfl, (zL ai rfl ak), (zL ai rfl ap), (zL ai rfl ao), (zL ai rfl ar), (zL ai rfl am), (zL ai rfl al), (zL ai rfl an), (zL ai rfl aj), (zU ai rfl).trans (congrArg (Value.int .i64) zx), (zU ai rfl).trans (congrArg Value.bool (by rw [hitK_step zx, ay, ax]; rfl)), zx, hb, zx, hx, hA9, hLa, hR, hW, C, T, S⟩ zx
   rw [ax]
   refine zd (zA ai rfl) (zA ai rfl) (zD (zA ai rfl) (zB (J3 _ _ (zH (zG (zC ai rfl au) (op_add (zA ai rfl) rfl (add64 zx) (zD (zA ai rfl) (zB ?_))))))))
   -- round 16F 30T 37T 40F 56F
   exact zg _ ai aq ⟨(k + 1), rfl, (zL ai rfl ak), (zL ai rfl ap), (zL ai rfl ao), (zL ai rfl ar), (zL ai rfl am), (zL ai rfl al), (zL ai rfl an), (zL ai rfl aj), (zU ai rfl).trans (congrArg (Value.int .i64) zx), (zU ai rfl).trans (congrArg Value.bool (by rw [hitK_step zx, ay, ax]; rfl)), zx, hb, zx, hx, hA9, hLa, hR, hW, C, T, S⟩ zx
  refine zB (J4 _ _ (wp_cond_false (zA ai rfl) (wp_exit (then_exit (then_exit (blk_hit (J2 _ _ (zF fun _ J2 => reg_from mixed ?_))))))))
  intro au ax
  obtain ⟨hb, _⟩ := yG hb ax
  have hx := hx.keep0 ax
  have hA9 := hA9.kz ax
  have hLa := hLa.keep0 ax
  have hR := hR.keep0 ax
  have hW := hW.keep0 ax
  have C := C.keep0 ax
  have T := T.keep0 ax
  have S := S.keep0 ax
  have hLi := hLi.keep0 ax
  refine from_still (m := 17) 17 (hd := [_, _, _, _, _, _, _, _, _, _, _, _, _, _, _, _, _]) zy rfl rfl (st_step rfl (fun _ h9 => zG (zC ai rfl aj) h9) (st_step rfl (fun _ h9 => zG (zC ai rfl am) h9) ?_))
  by_cases ax : ((i : Nat) : Int) ≠ ((m : Nat) : Int)
  ·
   refine st_step rfl (fun _ h9 => op_cmp (b := true) (zA ai rfl) (zA ai rfl) (b_neq (decide_eq_true ax)) h9) (st_step rfl (fun _ h9 => zG (zA ai rfl) h9) (st_g_true (j := 3) (dj := 61) (b := true) rfl rfl rfl (zA ai rfl) (st_step rfl (fun _ h9 => zG (zC ai rfl av) h9) ?_)))
   rcases Bool.eq_false_or_eq_true ((hitK U ((E.getD i default).2.D.map rOf) k)) with av | av
   ·
    rw [av]
    refine st_step rfl (fun _ h9 => zc (zA ai rfl) (zA ai rfl) h9) (st_step rfl (fun _ h9 => zG (zA ai rfl) h9) (st_g_true (j := 6) (dj := 64) (b := true) rfl rfl rfl (zA ai rfl) (st_step rfl (fun _ h9 => zM fld177_1 (zC ai rfl al) h9) (st_g_true (j := 6) (dj := 64) (b := true) rfl rfl rfl (zA ai rfl) (st_step rfl (fun _ h9 => zN one54 (zA ai rfl) (C.cell rfl) h9) (st_g_true (j := 6) (dj := 64) (b := true) rfl rfl rfl (zA ai rfl) (st_step rfl (fun _ h9 => zG (zC ai rfl ak) h9) ?_)))))))
    refine st_g_true (j := 6) (dj := 64) (b := true) rfl rfl rfl (zA ai rfl) (st_step rfl (fun _ h9 => op_nil (zA ai rfl) h9) (st_g_true (j := 6) (dj := 64) (b := true) rfl rfl rfl (zA ai rfl) (st_step rfl (fun _ h9 => zM fld117_0 (zA ai rfl) h9) (st_g_true (j := 6) (dj := 64) (b := true) rfl rfl rfl (zA ai rfl) (st_step rfl (fun _ h9 => zN one115 (zA ai rfl) (hx.cell rfl) h9) (st_g_true (j := 6) (dj := 64) (b := true) rfl rfl rfl (zA ai rfl) (st_step rfl (fun _ h9 => zG (zC ai rfl aj) h9) (st_g_true (j := 6) (dj := 64) (b := true) rfl rfl rfl (zA ai rfl) (st_index_rd slt115 (zA ai rfl) T.rdw (zA ai rfl) zx zx ?_)))))))))
    intro aB az aC aA ay
    refine st_g_true (j := 6) (dj := 64) (b := true) rfl rfl rfl (zA ai rfl) (st_step rfl (fun _ h9 => zM fld177_1 (zA ai rfl) h9) ?_)
    refine st_g_true (j := 6) (dj := 64) (b := true) rfl rfl rfl (zA ai rfl) (st_step rfl (fun _ h9 => zN (v := (E.getD i default).2.la) one54 (zA ai rfl) (ay 1 _ zz ((el_dX (i := i) zx zx) 1 _ rfl)) h9) (st_nil (from_seq (tl := [_, _]) zz zy rfl (zS (j := 6) (dj := 64) (b := true) rfl rfl rfl (zA ai rfl) (zj ok61 (raboveW_ret U.label (E.getD i default).1.2.label _ _ _ (by first | assumption | omega | (simp only [List.length_append, List.length_cons, List.length_nil, List.length_drop, List.length_take]; omega) | (dsimp only; omega) | decide | (simp [keyV, be8_len]; done)) (by first | assumption | omega | (simp only [List.length_append, List.length_cons, List.length_nil, List.length_drop, List.length_take]; omega) | (dsimp only; omega) | decide | (simp [keyV, be8_len]; done)) (show RdC au 0 au.heap.size 1 la U.label.length (U.label.map u16v) from by have hh : RdC au 0 au.heap.size 1 _ _ _ := (hLa.rdw.mono (L' := 0) (B' := au.heap.size) (Nat.zero_le _) zx); first | exact hh | exact hh.cast (by first | omega | (simp; try omega)) (by first | rfl | simp [u16v])) (show RdC au 0 au.heap.size 1 (E.getD i default).2.la (E.getD i default).1.2.label.length ((E.getD i default).1.2.label.map u16v) from by have hh : RdC au 0 au.heap.size 1 _ _ _ := (hLi.mono (L' := 0) (B' := au.heap.size) (Nat.zero_le _) zx); first | exact hh | exact hh.cast (by first | omega | (simp; try omega)) (by first | rfl | simp [u16v]))) ⟨(zA ai rfl), ⟨(zA ai rfl), trivial⟩⟩ ?_)))))
    rintro _ ay ⟨au, rfl⟩
    have au := zQ au
    obtain ⟨hb, _⟩ := yG hb au
    have hx := hx.keep0 au
    have hA9 := hA9.kz au
    have hLa := hLa.keep0 au
    have hR := hR.keep0 au
    have hW := hW.keep0 au
    have C := C.keep0 au
    have T := T.keep0 au
    have S := S.keep0 au
    rcases Bool.eq_false_or_eq_true ((flowsL U.label (E.getD i default).1.2.label && !decide (U.label = (E.getD i default).1.2.label))) with au | au
    ·
     rw [au]
     refine zc (zA ai rfl) (zA ai rfl) (zB (J2 _ _ (wp_cond_true (zA ai rfl) (zF fun _ J2 => zH ?_))))
     have hcy : cR n U (E.getD i default).1 = true := by rw [cR_of (k := k) hDe zx, av, au, decide_eq_true (show (E.getD i default).1.1 ≠ n from fun h9 => ax (by have := hu i aw h9; omega))]; rfl
     have hkl := dK_len (E := E) (n := n) (U := U) hi
     skip
     skip
     skip
     skip
     refine zG (zC ai rfl ak) (op_nil (zA ai rfl) (zM fld117_0 (zA ai rfl) (zN one115 (zA ai rfl) (hx.cell rfl) (zG (zC ai rfl aj) (op_index_own (i := i) slt115 (zA ai rfl) T (zA ai rfl) zx zx ?_)))))
     intro az aB aA ay
     refine zM fld177_5 (zA ai rfl) ?_
     have az := T
     refine op_store_own (vs := [(.bool true)]) size4 (zA ai rfl) rfl rfl rfl rfl az (ay.fld 5) (by have := az.1; simp only [List.length_cons, List.length_nil]; omega) ?_
     intro aB aA ay
     have := ay.size
     have hx := hx.keepO az ay zz
     have hA9 := hA9.keepG (Gr.of ay) (hA9.notOwn az zz zz zz).symm
     have hb := hb.stepL ay (fun _ _ h => .inr h)
     have aA : Own aB base 177 6 lv E.length (((dX E n U (i + 1))).flatMap cellsRE) := by exact aA.cast rfl (set_dX aw hcy)
     refine zB (J2 _ _ (zH (zG (zC ai rfl an) (zG (zC ai rfl ak) (op_nil (zA ai rfl) (zM fld117_0 (zA ai rfl) (zN one115 (zA ai rfl) (hx.cell rfl) (zG (zC ai rfl aj) (zh slt115 (zA ai rfl) aA.rdw (zA ai rfl) zx zx ?_)))))))))
     intro aE aF aC aD aB
     refine zM fld177_0 (zA ai rfl) (zN (v := (Value.int .i64 (E.getD i default).1.1)) one3 (zA ai rfl) (aB 0 ((.int .i64 (E.getD i default).1.1)) zz ((el_dX1 (i := i) zx zx) 0 ((.int .i64 (E.getD i default).1.1)) rfl)) (op_bslice (e := 3) (pv := [(0, (.int .i64 (E.getD i default).1.1))]) (cs := [(.int .i64 (E.getD i default).1.1)]) ⟨rfl, (zA ai rfl), trivial⟩ zy ?_))
     intro aD aG aF aE aC aB
     obtain ⟨hb, _⟩ := yG hb aB
     have hA9 := hA9.kz aB
     have S := (S.keepT az ay zz).keep0 aB
     have aD := S
     refine op_append slt35 (zA ai rfl) aD (zA ai rfl) (Src.ofRd Try.underlying35 zz (RdC.ofBx (sz := 1) (n := 1) aC rfl zz) (by simp [Value.oneCell', u8v])) (by unfold maxLen; omega) zx hb.size ?_
     intro aF aG aE aC aH
     have := aC.size
     have hx := (hx.keep0 aB).keepO aD aC zz
     have hA9 := hA9.keepG (Gr.of aC) (hA9.notOwn aD zz zz zz).symm
     have hLa := ((hLa.keepT az ay zz).keep0 aB).keepT aD aC zz
     have hR := ((hR.keepT az ay zz).keep0 aB).keepT aD aC zz
     have hW := ((hW.keepT az ay zz).keep0 aB).keepT aD aC zz
     have C := ((C.keep ay (fun hh => L hh.symm)).keep0 aB).keepO aD aC zz
     have aA := (aA.keep0 aB).keepT aD aC zz
     have hb := hb.stepO aD aC zx
     have aE : Own aG w.heap.size 3 1 aF ((dK E n U i).length + 1) ((((dK E n U i) ++ [(E.getD i default).1.1])).map (Value.int .i64)) := by simpa [u8v, u16v, sv] using aE
     refine zD (zA ai rfl) (zB (p _ _ (zH (zG (zC ai rfl aj) (op_add (zA ai rfl) rfl (add64 zx) (zD (zA ai rfl) (zB ?_)))))))
     -- round 16F 30T 37F 60T 62T 75T
     exact zg _ ai aq ⟨(i + 1), aF, rfl, (zL ai rfl ak), (zL ai rfl ap), (zL ai rfl ao), (zL ai rfl ar), (zL ai rfl am), (zL ai rfl al), (zU ai rfl).trans (congrArg (Value.int .i64) zx), (zU ai rfl), zx, hb, zx, hx, hA9, hLa, hR, hW, C, (aA.cast rfl rfl), (aE.cast (by rw [dK_yes aw hcy]; simp) (by rw [dK_yes aw hcy]))⟩ zx
    rw [au]
    refine zc (zA ai rfl) (zA ai rfl) (zB (J2 _ _ (wp_cond_false (zA ai rfl) (wp_skip (p _ _ (zH (zG (zC ai rfl aj) (op_add (zA ai rfl) rfl (add64 zx) (zD (zA ai rfl) (zB ?_))))))))))
    -- round 16F 30T 37F 60T 62T 75F
    exact zg _ ai aq ⟨(i + 1), dv, rfl, (zL ai rfl ak), (zL ai rfl ap), (zL ai rfl ao), (zL ai rfl ar), (zL ai rfl am), (zL ai rfl al), (zU ai rfl).trans (congrArg (Value.int .i64) zx), (zL ai rfl an), zx, hb, zx, hx, hA9, hLa, hR, hW, C, (T.cast rfl (by rw [dX_no aw (by rw [cR_of (k := k) hDe zx, au, Bool.and_false, Bool.and_false])])), (S.cast (by rw [dK_no aw (by rw [cR_of (k := k) hDe zx, au, Bool.and_false, Bool.and_false])]) (by rw [dK_no aw (by rw [cR_of (k := k) hDe zx, au, Bool.and_false, Bool.and_false])]))⟩ zx
   rw [av]
   refine st_step rfl (fun _ h9 => zc (zA ai rfl) (zA ai rfl) h9) (st_step rfl (fun _ h9 => zG (zA ai rfl) h9) ?_)
   refine st_g_false (j := 6) (dj := 64) (b := true) rfl rfl rfl (zA ai rfl) rfl rfl (st_g_false (j := 6) (dj := 64) (b := true) rfl rfl rfl (zA ai rfl) rfl rfl (st_g_false (j := 6) (dj := 64) (b := true) rfl rfl rfl (zA ai rfl) rfl rfl (st_g_false (j := 6) (dj := 64) (b := true) rfl rfl rfl (zA ai rfl) rfl rfl (st_g_false (j := 6) (dj := 64) (b := true) rfl rfl rfl (zA ai rfl) rfl rfl (st_g_false (j := 6) (dj := 64) (b := true) rfl rfl rfl (zA ai rfl) rfl rfl (st_g_false (j := 6) (dj := 64) (b := true) rfl rfl rfl (zA ai rfl) rfl rfl (st_g_false (j := 6) (dj := 64) (b := true) rfl rfl rfl (zA ai rfl) rfl rfl (st_g_false (j := 6) (dj := 64) (b := true) rfl rfl rfl (zA ai rfl) rfl rfl (st_g_false (j := 6) (dj := 64) (b := true) rfl rfl rfl (zA ai rfl) rfl rfl ?_)))))))))
   refine st_nil (from_seq (tl := [_, _]) zz zy rfl (zR (j := 6) (dj := 64) (b := true) rfl rfl rfl (zA ai rfl) rfl rfl (zd (zA ai rfl) rfl (zB (J2 _ _ (wp_cond_false (zA ai rfl) (wp_skip (p _ _ (zH (zG (zC ai rfl aj) (op_add (zA ai rfl) rfl (add64 zx) (zD (zA ai rfl) (zB ?_)))))))))))))
   -- round 16F 30T 37F 60T 62F
   exact zg _ ai aq ⟨(i + 1), dv, rfl, (zL ai rfl ak), (zL ai rfl ap), (zL ai rfl ao), (zL ai rfl ar), (zL ai rfl am), (zL ai rfl al), (zU ai rfl).trans (congrArg (Value.int .i64) zx), (zL ai rfl an), zx, hb, zx, hx, hA9, hLa, hR, hW, C, (T.cast rfl (by rw [dX_no aw (by rw [cR_of (k := k) hDe zx, av, Bool.false_and, Bool.and_false])])), (S.cast (by rw [dK_no aw (by rw [cR_of (k := k) hDe zx, av, Bool.false_and, Bool.and_false])]) (by rw [dK_no aw (by rw [cR_of (k := k) hDe zx, av, Bool.false_and, Bool.and_false])]))⟩ zx
  refine st_step rfl (fun _ h9 => op_cmp (b := false) (zA ai rfl) (zA ai rfl) (b_neq (decide_eq_false ax)) h9) (st_step rfl (fun _ h9 => zG (zA ai rfl) h9) (st_g_false (j := 3) (dj := 61) (b := true) rfl rfl rfl (zA ai rfl) rfl rfl (st_step rfl (fun _ h9 => zd (zA ai rfl) rfl h9) (st_step rfl (fun _ h9 => zG (zA ai rfl) h9) ?_))))
  refine st_g_false (j := 6) (dj := 64) (b := true) rfl rfl rfl (zA ai rfl) rfl rfl (st_g_false (j := 6) (dj := 64) (b := true) rfl rfl rfl (zA ai rfl) rfl rfl (st_g_false (j := 6) (dj := 64) (b := true) rfl rfl rfl (zA ai rfl) rfl rfl (st_g_false (j := 6) (dj := 64) (b := true) rfl rfl rfl (zA ai rfl) rfl rfl (st_g_false (j := 6) (dj := 64) (b := true) rfl rfl rfl (zA ai rfl) rfl rfl (st_g_false (j := 6) (dj := 64) (b := true) rfl rfl rfl (zA ai rfl) rfl rfl (st_g_false (j := 6) (dj := 64) (b := true) rfl rfl rfl (zA ai rfl) rfl rfl (st_g_false (j := 6) (dj := 64) (b := true) rfl rfl rfl (zA ai rfl) rfl rfl (st_g_false (j := 6) (dj := 64) (b := true) rfl rfl rfl (zA ai rfl) rfl rfl (st_g_false (j := 6) (dj := 64) (b := true) rfl rfl rfl (zA ai rfl) rfl rfl ?_)))))))))
  refine st_nil (from_seq (tl := [_, _]) zz zy rfl (zR (j := 6) (dj := 64) (b := true) rfl rfl rfl (zA ai rfl) rfl rfl (zd (zA ai rfl) rfl (zB (J2 _ _ (wp_cond_false (zA ai rfl) (wp_skip (p _ _ (zH (zG (zC ai rfl aj) (op_add (zA ai rfl) rfl (add64 zx) (zD (zA ai rfl) (zB ?_)))))))))))))
  -- round 16F 30T 37F 60F
  exact zg _ ai aq ⟨(i + 1), dv, rfl, (zL ai rfl ak), (zL ai rfl ap), (zL ai rfl ao), (zL ai rfl ar), (zL ai rfl am), (zL ai rfl al), (zU ai rfl).trans (congrArg (Value.int .i64) zx), (zL ai rfl an), zx, hb, zx, hx, hA9, hLa, hR, hW, C, (T.cast rfl (by rw [dX_no aw (by unfold cR; rw [decide_eq_false (fun h9 => h9 (by rw [show i = m by omega, hej])), Bool.false_and])])), (S.cast (by rw [dK_no aw (by unfold cR; rw [decide_eq_false (fun h9 => h9 (by rw [show i = m by omega, hej])), Bool.false_and])]) (by rw [dK_no aw (by unfold cR; rw [decide_eq_false (fun h9 => h9 (by rw [show i = m by omega, hej])), Bool.false_and])]))⟩ zx
 refine zB (J2 _ _ (wp_cond_false (zA R rfl) (wp_exit (then_exit (then_exit (blk_hit (g _ _ (zF fun _ g => zH ?_))))))))
 have hiE : i = E.length := by omega
 have hdl : (dX E n U i).length = E.length := dX_len hi
 have hdk : ((dX E n U i).getD m default).1.1 = n := by rw [hiE]; exact (dX_key hj).trans hn
 have hdu : ∀ q, q < (dX E n U i).length → ((dX E n U i).getD q default).1.1 = n → q = m := fun q h1 h2 => hu q zx ((dX_key zx).symm.trans (by rw [← hiE]; exact h2))
 have hdo : ((dX E n U i).flatMap cellsRE).all Value.oneCell' = true := by rw [hiE]; exact dX_one hone
 skip
 refine zG (zC R rfl V) (zG (zC R rfl Z) (zj ok66 (Leave_hit9 (E := (dX E n U i)) (j := m) zx hx (T.cast (by rw [hdl]) rfl) (by rw [hdl]; omega) (by rw [hdl]; omega) hdk hdu hdo) ⟨(zA R rfl), ⟨(zA R rfl), trivial⟩⟩ ?_))
 rintro _ am ⟨ai, rfl, ak, al, aj⟩
 have hx_old := hx
 have := ai.size
 have S := S.keepX hx_old ai zz
 have hb := hb.stepB ai (.inl rfl)
 have aj := aj.mono (base' := w.heap.size) zx
 refine zB (g _ _ (zF fun _ g => zH (zG (zC R rfl W) (zD (zA R rfl) (zD rfl (zB (g _ _ (wp_ret (ret2 rfl X (zA R rfl) (zA R rfl) ⟨_, rfl, ?_⟩)))))))))
 obtain rfl : i = E.length := hiE
 exact ⟨hb, dv, ak, rfl, S, al, aj.cast (by rw [hdl]) rfl⟩

end Go.Proofs.Ytmhdbphpmgjpcaa

namespace Go.Proofs.Ytmhdbphpmgjpcaa
open Go.Gx Go.RowKit
section
variable {w w' : World} {base base2 r c b tt e sz nn m : Nat} {lv v : Value} {E : List RE} {a : RE} {F G : Nat → Prop} {M L : TM} {n s : Int} {cs : List Value} {U : TX} {l : List UInt16}
def FX (r : Nat) (lv : Value) (E : List RE) : Nat → Prop := fun x => x = r ∨ Bl lv x ∨ ∃ e ∈ E, PartE e x
theorem RfX.make (h0 : base ≤ r) (hx : Bx w r 117 [lv]) (O : Own w base 177 6 lv E.length (E.flatMap cellsRE)) (hA : ∀ e ∈ E, RfAt w base e) (hP : Ap E) : RfX w base r lv E (FX r lv E) :=
  ⟨h0, hx, O, hA, hP, fun _ hx => hx, fun x hx' => by
    rcases hx' with rfl | hx' | ⟨e, he, hx'⟩
    · exact ⟨h0, hx.lt⟩
    · exact O.lt x hx'
    · exact (hA e he).lt x hx'⟩
theorem RfAt.notBx (h : RfAt w base a) (hB : Bx w b tt cs) (h1 : tt ≠ 46) (h2 : tt ≠ 181) (h3 : tt ≠ 9) : ∀ x, PartE a x → x ≠ b := fun x hp e => by
  subst e
  obtain ⟨q1, q2, q3, q4, _⟩ := h
  rcases hp with hp | hp | hp | ⟨r, hr, hp⟩
  · exact q1.neB hB h1 hp
  · exact q2.neB hB h2 hp
  · exact q4.neB hB h3 hp
  · exact (q3 _ (List.mem_map.2 ⟨r, hr, rfl⟩)).neB hB h1 hp
theorem RfAt.notOwn (h : RfAt w base a) (O : Own w base2 e sz v nn cs) (h1 : e ≠ 46) (h2 : e ≠ 181) (h3 : e ≠ 9) : ∀ x, PartE a x → ¬ Bl v x := fun x hp hy => by
  obtain ⟨q1, q2, q3, q4, _⟩ := h
  rcases hp with hp | hp | hp | ⟨r, hr, hp⟩
  · exact O.notOwn q1 h1 x hy hp
  · exact O.notOwn q2 h2 x hy hp
  · exact O.notOwn q4 h3 x hy hp
  · exact O.notOwn (q3 _ (List.mem_map.2 ⟨r, hr, rfl⟩)) h1 x hy hp
theorem gfst {i : Nat} (h : i < E.length) : (E.map Prod.fst).getD i default = (E.getD i default).1 := by simp [List.getD_eq_getElem?_getD, h]
theorem hitE (hu : (E.map Prod.fst).Pairwise (fun a b => a.1 < b.1)) (hg : mget (E.map Prod.fst) n = some U) : ∃ m, m < E.length ∧ (E.getD m default).1 = (n, U) ∧ ∀ q, q < E.length → (E.getD q default).1.1 = n → q = m := by
  obtain ⟨m, h1, h2⟩ := mem_getD (d := default) (mget_mem hg)
  rw [List.length_map] at h1
  rw [gfst h1] at h2
  exact ⟨m, h1, h2, fun q hq hk => ixR hu (by simpa using hq) (by simpa using h1) (by rw [gfst hq, gfst h1, hk, h2])⟩
theorem missE (hg : mget (E.map Prod.fst) n = none) : ∀ q, q < E.length → (E.getD q default).1.1 ≠ n := fun q hq => by
  have := missR hg (i := q) (by simpa using hq); rwa [gfst hq] at this
theorem Rel.ok (h : Rel M L) (hM : MOk M) (hS : MSm M) : ∀ a ∈ L, TOk a.2 ∧ a.2.writes.length ≤ 50000 := fun a ha => by
  obtain ⟨t, ht, q⟩ := h.hit (mget_of_mem (upN h.up) (show (a.1, a.2) ∈ L from ha))
  have h1 := (hM.2 _ (mget_mem ht)).2
  have h2 := hS _ (mget_mem ht)
  exact ⟨⟨by rw [← q.label]; exact h1.1, fun r hr => h1.2 r ((q.reads r).2 hr)⟩, by rw [← q.writes]; exact h2.2⟩
theorem Rel.len (h : Rel M L) : L.length = M.length := by
  have := congrArg List.length h.keys; rw [sortK_len, List.length_map] at this; exact this.symm
theorem e8 (hA : ∀ e ∈ E, RfAt w base e) (hk : ∀ a ∈ E.map Prod.fst, TOk a.2 ∧ a.2.writes.length ≤ 50000) : ∀ e ∈ E, e.1.2.label.length ≤ 8 ∧ ∀ r ∈ e.2.D, r.lab.length ≤ 8 := fun e he => by
  have h1 := (hk _ (List.mem_map.2 ⟨e, he, rfl⟩)).1
  exact ⟨h1.1, h1.rd (hA e he).2.2.2.2⟩
def RfQ (w : World) (base r : Nat) (M : TM) (c : Nat) (F : Nat → Prop) : Prop := ∃ lv E, Rel M (E.map Prod.fst) ∧ (∀ a ∈ E.map Prod.fst, a.2.reads.length ≤ c) ∧ RfX w base r lv E F
theorem RfQ.lt (h : RfQ w base r M c F) : ∀ x, F x → base ≤ x ∧ x < w.heap.size := by obtain ⟨_, _, _, _, h⟩ := h; exact h.lt
theorem RfQ.keepG (h : RfQ w base r M c F) (E2 : Gr w w' G) (hd : Dj F G) : RfQ w' base r M c F := by obtain ⟨lv, E, h1, h2, h⟩ := h; exact ⟨lv, E, h1, h2, h.keepG E2 hd⟩
theorem RfQ.kz (h : RfQ w base r M c F) (E9 : w.grownBy w' none) : RfQ w' base r M c F := h.keepG (Gr.of0 E9 NoB) (fun _ _ h => h)
theorem RfQ.perm {M2 : TM} (h : RfQ w base r M c F) (hp : M2.Perm M) : RfQ w base r M2 c F := by obtain ⟨lv, E, h1, h2, h⟩ := h; exact ⟨lv, E, h1.perm hp, h2, h⟩
theorem RfQ.start (h0 : base ≤ r) (hx : Bx w r 117 [.slice none 0 0]) : RfQ w base r [] 0 (fun x => x = r) := ⟨_, [], Rel.start, (fun _ h => (by cases h)), RfX.new h0 hx⟩
theorem RfX.r_ (h : RfX w base r lv E F) : F r := h.2.2.2.2.2.1 r (.inl rfl)
theorem NewF.of (h : ∀ x, G x → F x ∨ m ≤ x) : NewF m F G := h
theorem RfX.at1 (h : RfX w base r lv E F) (E1 : w.grownBy w' (some r)) : ∀ e ∈ E, RfAt w' base e := fun e he => (h.2.2.2.1 e he).keepG (Gr.of E1) fun x hx hh => (h.2.2.2.1 e he).notBx h.bx (by decide) (by decide) (by decide) x hx (Option.some.inj hh).symm
theorem EnterQ {tv : Value} (hb : base ≤ w.heap.size) (hM : MOk M) (hl : RdC w 0 w.heap.size 1 tv l.length (l.map u16v)) (hl8 : l.length ≤ 8) (h : RfQ w base r M c F) :
    Ret Try.prog 63 #[ptr r 0, .int .i64 n, tv, .int .u64 s] w (fun v' w' => Gr w w' F ∧ v' = .int .i64 (enterE M n) ∧ ∃ F', RfQ w' base r (enterM M n l s) c F' ∧ NewF w.heap.size F F') := by
  obtain ⟨lv, E, hR, hc, h⟩ := h
  have hE := hR.len; rw [List.length_map] at hE
  have hE9 : E.length ≤ 100000 := by have := hM.1; omega
  cases hg : mget (E.map Prod.fst) n with
  | some U =>
    obtain ⟨m, hm, hmU, hu⟩ := hitE hR.up hg
    obtain ⟨e1, e2⟩ := hR.enter_old (l := l) (s := s) hg
    refine (Enter_old9 hb h.bx h.own hE9 hm (by rw [hmU]) hu).mono fun v' w' q => ?_
    have E0 := grown_of_below q.1
    exact ⟨Gr.of0 E0 F, by rw [e1]; exact q.2, F, ⟨lv, E, e2, hc, h.keepG (Gr.of0 E0 NoB) (fun _ _ h => h)⟩, NewF.refl _ _⟩
  | none =>
    refine (Enter_new9 hb h.bx h.own hE9 h.one (missE hg) hl (by omega)).mono fun v' w' q => ?_
    obtain ⟨E1, hv, j, lv', nv, hp, hx', O', hla⟩ := q
    have hpL : PosR (E.map Prod.fst) n j := ⟨by have := hp.le; simpa using this, fun q hq => by rw [gfst (by have := hp.le; omega)]; exact hp.lo q hq, fun hj => by rw [List.length_map] at hj; rw [gfst hj]; exact hp.hi hj⟩
    obtain ⟨e1, e2⟩ := hR.enter_new (l := l) (s := s) hg hpL
    have hold := h.at1 E1
    have hle := hp.le
    have hnew : RfAt w' base ((n, newT l s), ⟨nv, .slice none 0 0, .slice none 0 0, []⟩) := ⟨hla.mono hb, Own.nil _ _ _ _, (fun _ h => (by cases h)), Own.nil _ _ _ _, rfl⟩
    have hA' : ∀ e ∈ E.take j ++ [(((n, newT l s), ⟨nv, .slice none 0 0, .slice none 0 0, []⟩) : RE)] ++ E.drop j, RfAt w' base e := fun e he => by
      rcases List.mem_append.1 he with he | he
      · rcases List.mem_append.1 he with he | he
        · exact hold e (List.mem_of_mem_take he)
        · rw [List.mem_singleton] at he; subst he; exact hnew
      · exact hold e (List.mem_of_mem_drop he)
    have hlen : (E.take j ++ [(((n, newT l s), ⟨nv, .slice none 0 0, .slice none 0 0, []⟩) : RE)] ++ E.drop j).length = E.length + 1 := by simp; omega
    have hX := RfX.make h.1 hx' ((O'.mono hb).cast hlen.symm rfl) hA' (h.2.2.2.2.1.ins (fun e he => fun k _ hk => (by cases hk)))
    have hmap : (E.take j ++ [(((n, newT l s), ⟨nv, .slice none 0 0, .slice none 0 0, []⟩) : RE)] ++ E.drop j).map Prod.fst = insR (E.map Prod.fst) j (n, newT l s) := by unfold insR; simp [List.map_take, List.map_drop]
    refine ⟨(Gr.of E1).mono fun x _ hx => ?_, by rw [e1]; exact hv, _, ⟨lv', _, by rw [hmap]; exact e2, fun a ha => ?_, hX⟩, fun x hx => ?_⟩
    · rw [← Option.some.inj hx]; exact h.r_
    · rw [hmap] at ha; unfold insR at ha
      rcases List.mem_append.1 ha with ha | ha
      · rcases List.mem_append.1 ha with ha | ha
        · exact hc a (List.mem_of_mem_take ha)
        · rw [List.mem_singleton] at ha; subst ha; exact Nat.zero_le _
      · exact hc a (List.mem_of_mem_drop ha)
    · rcases hx with rfl | hx | ⟨e, he, hx⟩
      · exact .inl h.r_
      · exact .inr (O'.lt x hx).1
      · rcases List.mem_append.1 he with he | he
        · rcases List.mem_append.1 he with he | he
          · exact .inl (h.part (List.mem_of_mem_take he) x hx)
          · rw [List.mem_singleton] at he; subst he
            rcases hx with hx | hx | hx | ⟨r, hr, _⟩
            · exact .inr (hla.lt x hx).1
            · cases hx
            · cases hx
            · cases hr
        · exact .inl (h.part (List.mem_of_mem_drop he) x hx)
theorem LeaveQ (hb : base ≤ w.heap.size) (hM : MOk M) (h : RfQ w base r M c F) :
    Ret Try.prog 66 #[ptr r 0, .int .i64 n] w (fun v' w' => Gr w w' F ∧ v' = .int .i64 (leaveE M n) ∧ ∃ F', RfQ w' base r (mdel M n) c F' ∧ NewF w.heap.size F F') := by
  obtain ⟨lv, E, hR, hc, h⟩ := h
  have hE := hR.len; rw [List.length_map] at hE
  have hE9 : E.length ≤ 100000 := by have := hM.1; omega
  cases hg : mget (E.map Prod.fst) n with
  | none =>
    obtain ⟨e1, e2⟩ := hR.leave_none hg
    refine (Leave_miss9 hb h.bx h.own hE9 (missE hg)).mono fun v' w' q => ?_
    have E0 := grown_of_below q.1
    exact ⟨Gr.of0 E0 F, by rw [e1]; exact q.2, F, ⟨lv, E, e2, hc, h.keepG (Gr.of0 E0 NoB) (fun _ _ h => h)⟩, NewF.refl _ _⟩
  | some U =>
    obtain ⟨m, hm, hmU, hu⟩ := hitE hR.up hg
    obtain ⟨e1, e2⟩ := hR.leave (n := n) (j := m) (by simpa using hm) (by rw [gfst hm, hmU])
    refine (Leave_hit9 hb h.bx h.own hE9 hm (by rw [hmU]) hu h.one).mono fun v' w' q => ?_
    obtain ⟨E1, hv, lv', hx', O'⟩ := q
    have hold := h.at1 E1
    have hsub : ∀ e ∈ E.take m ++ E.drop (m + 1), e ∈ E := fun e he => (List.mem_append.1 he).elim List.mem_of_mem_take List.mem_of_mem_drop
    have hX := RfX.make h.1 hx' ((O'.mono hb).cast (by simp; omega) rfl) (fun e he => hold e (hsub e he)) (h.2.2.2.2.1.sub (by rw [← List.eraseIdx_eq_take_drop_succ]; exact List.eraseIdx_sublist _ _))
    have hmap : (E.take m ++ E.drop (m + 1)).map Prod.fst = cutR (E.map Prod.fst) m := by unfold cutR; simp [List.map_take, List.map_drop]
    refine ⟨(Gr.of E1).mono fun x _ hx => ?_, by rw [e1]; exact hv, _, ⟨lv', _, by rw [hmap]; exact e2, fun a ha => ?_, hX⟩, fun x hx => ?_⟩
    · rw [← Option.some.inj hx]; exact h.r_
    · obtain ⟨e, he, rfl⟩ := List.mem_map.1 ha; exact hc _ (List.mem_map.2 ⟨e, hsub e he, rfl⟩)
    · rcases hx with rfl | hx | ⟨e, he, hx⟩
      · exact .inl h.r_
      · exact .inr (O'.lt x hx).1
      · exact .inl (h.part (hsub e he) x hx)
theorem set_fst {q : RE} : (E.set m q).map Prod.fst = (E.map Prod.fst).set m q.1 := by rw [List.map_set]
theorem RfX.pieces (h : RfX w base r lv E F) : Own w base 177 6 lv E.length (E.flatMap cellsRE) ∧ (∀ e ∈ E, RfAt w base e) ∧ Ap E := ⟨h.2.2.1, h.2.2.2.1, h.2.2.2.2.1⟩
theorem mem_set9 {q e : RE} (h : e ∈ E.set m q) : e = q ∨ e ∈ E := by
  rcases List.mem_or_eq_of_mem_set h with h | h
  · exact .inr h
  · exact .inl h
theorem MoveQ {tv : Value} (hb : base ≤ w.heap.size) (hM : MOk M) (hl : RdC w 0 w.heap.size 1 tv l.length (l.map u16v)) (hl8 : l.length ≤ 8) (h : RfQ w base r M c F) :
    Ret Try.prog 64 #[ptr r 0, .int .i64 n, tv, .int .u64 s] w (fun v' w' => Gr w w' F ∧ v' = .int .i64 (moveE M n) ∧ ∃ F', RfQ w' base r (moveM M n l s) c F' ∧ NewF w.heap.size F F') := by
  obtain ⟨lv, E, hR, hc, h⟩ := h
  have hE := hR.len; rw [List.length_map] at hE
  have hE9 : E.length ≤ 100000 := by have := hM.1; omega
  cases hg : mget (E.map Prod.fst) n with
  | none =>
    obtain ⟨e1, e2⟩ := hR.move_none (l := l) (s := s) hg
    refine (Move_miss9 hb h.bx h.own hE9 (missE hg)).mono fun v' w' q => ?_
    have E0 := grown_of_below q.1
    exact ⟨Gr.of0 E0 F, by rw [e1]; exact q.2, F, ⟨lv, E, e2, hc, h.keepG (Gr.of0 E0 NoB) (fun _ _ h => h)⟩, NewF.refl _ _⟩
  | some U =>
    obtain ⟨m, hm, hmU, hu⟩ := hitE hR.up hg
    obtain ⟨O, hA, hP⟩ := h.pieces
    have hmem : E.getD m default ∈ E := getD_mem hm
    have hAt := hA _ hmem
    have hUw : (E.getD m default).1.2 = U := by rw [hmU]
    by_cases hw : 0 < U.writes.length
    · obtain ⟨e1, e2⟩ := hR.move_wrote (l := l) (s := s) hg hw
      refine (Move_wrote9 hb h.bx h.own hE9 hm (by rw [hmU]) hu hAt.2.2.2.1 (by rw [hUw]; exact hw)).mono fun v' w' q => ?_
      have E0 := grown_of_below q.1
      exact ⟨Gr.of0 E0 F, by rw [e1]; exact q.2, F, ⟨lv, E, e2, hc, h.keepG (Gr.of0 E0 NoB) (fun _ _ h => h)⟩, NewF.refl _ _⟩
    · obtain ⟨e1, e2⟩ := hR.move (l := l) (s := s) (n := n) (j := m) (U := U) (by simpa using hm) (by rw [gfst hm, hmU]) (by rw [gfst hm, hmU]) hw
      refine (Move_hit9 hb h.bx h.own hE9 hm (by rw [hmU]) hu hAt.2.2.2.1 (by rw [hUw]; exact hw) hl (by omega)).mono fun v' w' q => ?_
      obtain ⟨E1, hv, nv, O', hla⟩ := q
      have E2 := Gr.of E1
      have hold : ∀ e ∈ E, RfAt w' base e := fun e he => (hA e he).keepT O E1 (by decide) (by decide) (by decide)
      have hAt' := hold _ hmem
      have hnew : RfAt w' base (movRE (E.getD m default) l s nv) := ⟨hla.mono hb, hAt'.2.1, hAt'.2.2.1, hAt'.2.2.2.1, hAt'.2.2.2.2⟩
      have hX := RfX.make h.1 (h.bx.keepG E2 (fun hh => O.neB h.bx (by decide) hh)) (O'.cast (by rw [List.length_set]) rfl) (fun e he => (mem_set9 he).elim (fun q => q ▸ hnew) (hold e)) (hP.set hm (a := movRE (E.getD m default) l s nv) (.inl rfl))
      have hmap : (E.set m (movRE (E.getD m default) l s nv)).map Prod.fst = (E.map Prod.fst).set m (n, moveT U l s) := by rw [set_fst]; unfold movRE; rw [hmU]
      refine ⟨E2.mono fun x _ hx => h.sub x hx, by rw [e1]; exact hv, _, ⟨lv, _, by rw [hmap]; exact e2, fun a ha => ?_, hX⟩, fun x hx => ?_⟩
      · obtain ⟨e, he, rfl⟩ := List.mem_map.1 ha
        rcases mem_set9 he with rfl | he
        · exact hc (E.getD m default).1 (List.mem_map.2 ⟨_, hmem, rfl⟩)
        · exact hc _ (List.mem_map.2 ⟨e, he, rfl⟩)
      · rcases hx with rfl | hx | ⟨e, he, hx⟩
        · exact .inl h.r_
        · exact .inl (h.sub x hx)
        · rcases mem_set9 he with rfl | he
          · rcases hx with hx | hx | hx | ⟨r, hr, hx⟩
            · exact .inr (hla.lt x hx).1
            · exact .inl (h.part hmem x (.inr (.inl hx)))
            · exact .inl (h.part hmem x (.inr (.inr (.inl hx))))
            · exact .inl (h.part hmem x (.inr (.inr (.inr ⟨r, hr, hx⟩))))
          · exact .inl (h.part he x hx)
theorem allOf (O : Own w base 177 6 lv E.length (E.flatMap cellsRE)) (hA : ∀ e ∈ E, RfAt w base e) : RfAll w base w.heap.size E (fun x => ∃ e ∈ E, PartE e x) :=
  ⟨hA, fun _ => Iff.rfl, fun x ⟨e, he, hx⟩ => (hA e he).lt x hx, Nat.le_refl _⟩
theorem AskQ {Rs : List (List UInt8)} {rsv : Value} {x : List UInt8} {lo : Nat} (hb : base ≤ w.heap.size) (hM : MOk M) (hS : MSm M) (hc9 : c ≤ 50000) (hRl : Rs.length ≤ 8) (hRs : RdC w 0 lo 1 rsv Rs.length (Rs.map sv)) (hlo : lo ≤ base) (h : RfQ w base r M c F) :
    Ret Try.prog 68 #[ptr r 0, .int .i64 n, rsv, .string (bs x)] w (fun v' w' => Gr w w' F ∧ v' = .tuple #[.int .i64 (askV M n Rs x), .int .i64 (askE M n)] ∧ ∃ F', RfQ w' base r (askM M n Rs x) (c + 8) F' ∧ NewF w.heap.size F F') := by
  obtain ⟨lv, E, hR, hc, h⟩ := h
  have hE := hR.len; rw [List.length_map] at hE
  have hE9 : E.length ≤ 100000 := by have := hM.1; omega
  cases hg : mget (E.map Prod.fst) n with
  | none =>
    obtain ⟨e1, e2, e3⟩ := hR.ask_none (Rs := Rs) (x := x) hg
    refine (Ask_miss9 hb h.bx h.own hE9 (missE hg)).mono fun v' w' q => ?_
    have E0 := grown_of_below q.1
    exact ⟨Gr.of0 E0 F, by rw [e1, e2]; exact q.2, F, ⟨lv, E, e3, fun a ha => Nat.le_add_right_of_le (hc a ha), h.keepG (Gr.of0 E0 NoB) (fun _ _ h => h)⟩, NewF.refl _ _⟩
  | some U =>
    obtain ⟨m, hm, hmU, hu⟩ := hitE hR.up hg
    obtain ⟨O, hA, hP⟩ := h.pieces
    have hmem : E.getD m default ∈ E := getD_mem hm
    rcases hq : E.getD m default with ⟨⟨q1, q2⟩, ⟨la, rv, wv, D⟩⟩
    rw [hq] at hmU hmem
    obtain ⟨rfl, rfl⟩ : q1 = n ∧ q2 = U := ⟨congrArg Prod.fst hmU, congrArg Prod.snd hmU⟩
    obtain ⟨hLa, hRv, hD, hW, hDe⟩ := hA _ hmem
    have hk := hR.ok hM hS
    obtain ⟨e1, e2, e3, e4⟩ := hR.ask (Rs := Rs) (x := x) (n := q1) (j := m) (U := q2) (by simpa using hm) (by rw [gfst hm, hq]) (by rw [gfst hm, hq])
    have hDl : D.length ≤ c := by
      have := hc _ (List.mem_map.2 ⟨_, hmem, rfl⟩)
      have h5 := congrArg List.length hDe
      rw [List.length_map] at h5; exact h5 ▸ this
    have hWl : q2.writes.length ≤ 50000 := (hk _ (List.mem_map.2 ⟨_, hmem, rfl⟩)).2
    refine (Ask_hit9 (lo := lo) hb h.bx O hE9 hm hq hu (allOf O hA) (e8 hA hk) hLa hRv hD hW hRs hlo ⟨by omega, by omega, by omega⟩).mono fun v' w' q => ?_
    obtain ⟨E2, hv, hcase⟩ := q
    rw [outE_all] at hv hcase
    have hrvF : ∀ y, Bl rv y → F y := fun y hy => h.part hmem y (.inr (.inl hy))
    have hGF : Gr w w' F := E2.mono fun y _ hy => hy.elim (h.sub y) (hrvF y)
    have hbx' := h.bx.keepG E2 (fun hh => hh.elim (O.neB h.bx (by decide)) (hRv.neB h.bx (by decide)))
    have hlab : ∀ e ∈ E, Own w' base 46 1 e.2.la e.1.2.label.length (e.1.2.label.map u16v) ∧ (∀ x9 ∈ e.2.D.map rdL, Own w' base 46 1 x9.1 x9.2.length (x9.2.map u16v)) ∧ Own w' base 9 1 e.2.wv e.1.2.writes.length (e.1.2.writes.map sv) := fun e he => by
      obtain ⟨a1, a2, a3, a4, a5⟩ := hA e he
      exact ⟨a1.keepG E2 (fun y hy hh => hh.elim (a1.notOwn O (by decide) y hy) (a1.notOwn hRv (by decide) y hy)), fun x9 hx9 => (a3 x9 hx9).keepG E2 (fun y hy hh => hh.elim ((a3 x9 hx9).notOwn O (by decide) y hy) ((a3 x9 hx9).notOwn hRv (by decide) y hy)), a4.keepG E2 (fun y hy hh => hh.elim (a4.notOwn O (by decide) y hy) (a4.notOwn hRv (by decide) y hy))⟩
    have hother : ∀ i, i < E.length → i ≠ m → RfAt w' base (E.getD i default) := fun i hi hne => by
      have he := getD_mem (d := default) hi
      obtain ⟨b1, b2, b3⟩ := hlab _ he
      obtain ⟨a1, a2, a3, a4, a5⟩ := hA _ he
      have hd : DJ (E.getD i default).2.rv rv := by
        have hp := List.pairwise_iff_getElem.1 hP
        have gd : ∀ i (hi : i < E.length), E.getD i default = E[i] := fun i hi => by simp [List.getD_eq_getElem?_getD, hi]
        have hrv : rv = (E.getD m default).2.rv := by rw [hq]
        rw [hrv, gd i hi, gd m hm]
        rcases Nat.lt_or_gt_of_ne hne with q | q
        · exact hp i m hi hm q
        · exact fun k h1 h2 => hp m i hm hi q k h2 h1
      exact ⟨b1, a2.keepG E2 (fun y hy hh => hh.elim (a2.notOwn O (by decide) y hy) (hd y hy)), b2, b3, a5⟩
    rcases hcase with ⟨ho, O', hR'⟩ | ⟨ho, rv', wv', O', hR', hsub, hW', hwn⟩
    · have hA' : ∀ e ∈ E, RfAt w' base e := fun e he => by
        obtain ⟨i, hi, rfl⟩ := mem_getD (d := default) he
        by_cases hne : i = m
        · subst hne
          obtain ⟨b1, b2, b3⟩ := hlab _ he
          rw [hq] at b1 b2 b3 ⊢
          exact ⟨b1, hR', b2, b3, hDe⟩
        · exact hother i hi hne
      exact ⟨hGF, by rw [hv, e1, e2], F, ⟨lv, E, e4 ho, fun a ha => Nat.le_add_right_of_le (hc a ha), h.1, hbx', O', hA', hP, h.2.2.2.2.2.1, fun y hy => ⟨(h.lt y hy).1, Nat.lt_of_lt_of_le (h.lt y hy).2 E2.size⟩⟩, NewF.refl _ _⟩
    · generalize hb9 : (((q1, askRT q2 Rs x), ⟨la, rv', wv', D ++ (Rs.take Rs.length).map (fun s => (⟨s, la, q2.label⟩ : RD))⟩) : RE) = b9 at O'
      have hnew : RfAt w' base b9 := by
        subst hb9
        obtain ⟨b1, b2, b3⟩ := hlab _ hmem
        refine ⟨b1, hR', fun x9 hx9 => ?_, hW', ?_⟩
        · rw [List.map_append] at hx9
          rcases List.mem_append.1 hx9 with hx9 | hx9
          · exact b2 x9 hx9
          · obtain ⟨r1, hr1, rfl⟩ := List.mem_map.1 hx9
            obtain ⟨s1, _, rfl⟩ := List.mem_map.1 hr1
            exact b1
        · show (D ++ _).map rOf = q2.reads ++ _
          have hDe' : D.map rOf = q2.reads := hDe
          rw [List.map_append, hDe', List.take_length, List.map_map]; rfl
      have hA' : ∀ e ∈ E.set m b9, RfAt w' base e := fun e he => by
        obtain ⟨i, hi, rfl⟩ := mem_getD (d := default) he
        rw [List.length_set] at hi
        rw [getD_set hm]
        split
        · exact hnew
        · exact hother i hi (by assumption)
      have hrv9 : b9.2.rv = rv' := by subst hb9; rfl
      have hP' : Ap (E.set m b9) := hP.set hm (.inr fun i hi hne => by
        rw [hrv9]
        intro k hk1 hk2
        rcases hsub k hk2 with q | q
        · have hd := hother i hi hne
          have hp := List.pairwise_iff_getElem.1 hP
          have gd : ∀ i (hi : i < E.length), E.getD i default = E[i] := fun i hi => by simp [List.getD_eq_getElem?_getD, hi]
          have hrv : rv = (E.getD m default).2.rv := by rw [hq]
          rw [hrv, gd m hm] at q
          rw [gd i hi] at hk1
          rcases Nat.lt_or_gt_of_ne hne with c | c
          · exact hp i m hi hm c k hk1 q
          · exact hp m i hm hi c k q hk1
        · have := ((hA _ (getD_mem (d := default) hi)).lt k (.inr (.inl hk1))).2; omega)
      have hX := RfX.make h.1 hbx' (O'.cast (by rw [List.length_set]) rfl) hA' hP'
      have hmap : (E.set m b9).map Prod.fst = (E.map Prod.fst).set m (q1, askRT q2 Rs x) := by rw [set_fst, ← hb9]
      refine ⟨hGF, by rw [hv, e1, e2], _, ⟨lv, _, by rw [hmap]; exact e3 ho, fun a ha => ?_, hX⟩, fun y hy => ?_⟩
      · obtain ⟨e, he, rfl⟩ := List.mem_map.1 ha
        rcases mem_set9 he with rfl | he
        · rw [← hb9]
          have := hc _ (List.mem_map.2 ⟨_, hmem, rfl⟩)
          show (q2.reads ++ Rs.map _).length ≤ c + 8
          rw [List.length_append, List.length_map]
          have h7 : q2.reads.length ≤ c := this
          omega
        · exact Nat.le_add_right_of_le (hc _ (List.mem_map.2 ⟨e, he, rfl⟩))
      · rcases hy with rfl | hy | ⟨e, he, hy⟩
        · exact .inl h.r_
        · exact .inl (h.sub y hy)
        · rcases mem_set9 he with rfl | he
          · rw [← hb9] at hy
            rcases hy with hy | hy | hy | ⟨r1, hr1, hy⟩
            · exact .inl (h.part hmem y (.inl hy))
            · exact (hsub y hy).imp (hrvF y) id
            · rcases hwn with e | e
              · exact .inl (h.part hmem y (.inr (.inr (.inl (by rw [← e]; exact hy)))))
              · exact .inr (e y hy)
            · rcases List.mem_append.1 hr1 with hr1 | hr1
              · exact .inl (h.part hmem y (.inr (.inr (.inr ⟨r1, hr1, hy⟩))))
              · obtain ⟨s1, _, rfl⟩ := List.mem_map.1 hr1
                exact .inl (h.part hmem y (.inl hy))
          · exact .inl (h.part he y hy)
theorem ComQ (hb : base ≤ w.heap.size) (hM : MOk M) (hS : MSm M) (h : RfQ w base r M c F) :
    Ret Try.prog 65 #[ptr r 0, .int .i64 n] w (fun v' w' => Gr w w' F ∧ ∃ v, v' = .tuple #[v, .int .i64 (leaveE M n)] ∧ Own w' w.heap.size 3 1 v (comL M n).length ((comL M n).map (Value.int .i64)) ∧ ∃ F', RfQ w' base r (comM M n) c F' ∧ NewF w.heap.size F F' ∧ ∀ y, Bl v y → ¬ F' y) := by
  obtain ⟨lv, E, hR, hc, h⟩ := h
  have hE := hR.len; rw [List.length_map] at hE
  have hE9 : E.length ≤ 100000 := by have := hM.1; omega
  cases hg : mget (E.map Prod.fst) n with
  | none =>
    obtain ⟨e1, e2, e3⟩ := hR.com_none hg
    refine (Com_miss9 hb h.bx h.own hE9 (missE hg)).mono fun v' w' q => ?_
    have E0 := grown_of_below q.1
    exact ⟨Gr.of0 E0 F, .slice none 0 0, by rw [e1]; exact q.2, by rw [e2]; exact Own.nil _ _ _ _, F, ⟨lv, E, e3, hc, h.keepG (Gr.of0 E0 NoB) (fun _ _ h => h)⟩, NewF.refl _ _, fun y hy => (by cases hy)⟩
  | some U =>
    obtain ⟨m, hm, hmU, hu⟩ := hitE hR.up hg
    obtain ⟨O, hA, hP⟩ := h.pieces
    have hmem : E.getD m default ∈ E := getD_mem hm
    rcases hq : E.getD m default with ⟨⟨q1, q2⟩, ⟨la, rv, wv, D⟩⟩
    rw [hq] at hmU hmem
    obtain ⟨rfl, rfl⟩ : q1 = n ∧ q2 = U := ⟨congrArg Prod.fst hmU, congrArg Prod.snd hmU⟩
    obtain ⟨hLa, hRv, hD, hW, hDe⟩ := hA _ hmem
    have hk := hR.ok hM hS
    obtain ⟨e1, e2, e3⟩ := hR.com (n := q1) (j := m) (U := q2) (by simpa using hm) (by rw [gfst hm, hq]) (by rw [gfst hm, hq])
    have hWl : q2.writes.length ≤ 50000 := (hk _ (List.mem_map.2 ⟨_, hmem, rfl⟩)).2
    refine (Com_hit9 hb h.bx O hE9 hm hq hu (allOf O hA) (e8 hA hk) hLa hRv hW (by omega) h.one).mono fun v' w' q => ?_
    obtain ⟨E2, dv, lv', hv, hdv, hx', O'⟩ := q
    have hdK : dK E q1 q2 E.length = comL M q1 := by rw [e2]; unfold dK; rw [List.take_length]
    rw [hdK] at hdv
    rw [dX_all] at O'
    have hold : ∀ e ∈ E, RfAt w' base e := fun e he => (hA e he).keepG E2 fun y hy hh => hh.elim (fun q => (hA e he).notBx h.bx (by decide) (by decide) (by decide) y hy q) ((hA e he).notOwn O (by decide) (by decide) (by decide) y hy)
    have hsub : ∀ e ∈ (E.map (dE q1 q2)).take m ++ (E.map (dE q1 q2)).drop (m + 1), ∃ e0 ∈ E, e = dE q1 q2 e0 := fun e he => by
      have : e ∈ E.map (dE q1 q2) := (List.mem_append.1 he).elim List.mem_of_mem_take List.mem_of_mem_drop
      obtain ⟨e0, h0, rfl⟩ := List.mem_map.1 this
      exact ⟨e0, h0, rfl⟩
    have hdE : ∀ e0 ∈ E, RfAt w' base (dE q1 q2 e0) := fun e0 h0 => by
      obtain ⟨a1, a2, a3, a4, a5⟩ := hold e0 h0
      unfold dE dR
      split
      · exact ⟨a1, a2, a3, a4, a5⟩
      · exact ⟨a1, a2, a3, a4, a5⟩
    have hpart : ∀ e0 y, PartE (dE q1 q2 e0) y → PartE e0 y := fun _ _ h => h
    have hPm : Ap (E.map (dE q1 q2)) := List.pairwise_map.2 hP
    have hX := RfX.make h.1 hx' ((O'.mono hb).cast (by simp; omega) rfl) (fun e he => by obtain ⟨e0, h0, rfl⟩ := hsub e he; exact hdE e0 h0) (hPm.sub (by rw [← List.eraseIdx_eq_take_drop_succ]; exact List.eraseIdx_sublist _ _))
    have hmap : ((E.map (dE q1 q2)).take m ++ (E.map (dE q1 q2)).drop (m + 1)).map Prod.fst = cutR ((E.map Prod.fst).map (dR q1 q2)) m := by
      have e9 : (E.map (dE q1 q2)).map Prod.fst = (E.map Prod.fst).map (dR q1 q2) := by rw [List.map_map, List.map_map]; rfl
      unfold cutR; rw [List.map_append, List.map_take, List.map_drop, e9]
    refine ⟨E2.mono fun y _ hy => hy.elim (fun q => q ▸ h.r_) (h.sub y), dv, by rw [e1]; exact hv, hdv, _, ⟨lv', _, by rw [hmap]; exact e3, fun a ha => ?_, hX⟩, fun y hy => ?_, fun y hy hf => ?_⟩
    · obtain ⟨e, he, rfl⟩ := List.mem_map.1 ha
      obtain ⟨e0, h0, rfl⟩ := hsub e he
      have := hc _ (List.mem_map.2 ⟨e0, h0, rfl⟩)
      unfold dE dR
      split
      · exact this
      · exact this
    · rcases hy with rfl | hy | ⟨e, he, hy⟩
      · exact .inl h.r_
      · exact .inr (O'.lt y hy).1
      · obtain ⟨e0, h0, rfl⟩ := hsub e he
        exact .inl (h.part h0 y (hpart e0 y hy))
    · rcases hf with rfl | hf | ⟨e, he, hf⟩
      · have h1 := (hdv.lt y hy).1
        have h2 := h.bx.lt; omega
      · exact hdv.notOwn O' (by decide) y hy hf
      · obtain ⟨e0, h0, rfl⟩ := hsub e he
        have h1 := (hdv.lt y hy).1
        have h2 := ((hA e0 h0).lt y (hpart e0 y hf)).2; omega
end
end Go.Proofs.Ytmhdbphpmgjpcaa

namespace Go.Proofs.Ytmhdbphpmgjpcaa
open Go.Gx Go.RowKit
attribute [local irreducible] wpList wpStill Code.wp Calls

theorem same_hit {E : List RE} {M : TM} {j : Nat} {y : Int} (hR : Rel M (E.map Prod.fst)) (hj : j < E.length) (hn : (E.getD j default).1.1 = y) : (txAt M y).writes = (E.getD j default).1.2.writes ∧ (txAt M y).doomed = (E.getD j default).1.2.doomed := by
  have hg := mget_atR hR.up (i := j) (by simpa using hj)
  rw [gfst hj, hn] at hg
  obtain ⟨t, ht, q⟩ := hR.hit hg
  rw [txAt_of ht]; exact ⟨q.writes, q.doomed⟩
theorem txAt_sm {M : TM} {y : Int} (hS : MSm M) : (txAt M y).writes.length ≤ 50000 := by
  unfold txAt
  cases hg : mget M y with
  | none => exact Nat.zero_le _
  | some t => exact (hS _ (mget_mem hg)).2
theorem same_miss {E : List RE} {M : TM} {y : Int} (hR : Rel M (E.map Prod.fst)) (h : ∀ q, q < E.length → (E.getD q default).1.1 ≠ y) : (txAt M y).writes = [] ∧ (txAt M y).doomed = false := by
  have hg : mget (E.map Prod.fst) y = none := missR' fun q hq => by rw [List.length_map] at hq; rw [gfst hq]; exact h q hq
  have := hR.miss hg
  unfold txAt; rw [this]; exact ⟨rfl, rfl⟩
theorem Find_any9 {E : List RE} {r base : Nat} {lv : Value} {n : Int} {w : World} (hbase : base ≤ w.heap.size) (hx : Bx w r 117 [lv]) (O : Own w base 177 6 lv E.length (E.flatMap cellsRE)) (hE9 : E.length ≤ 100000) (hu : (E.map Prod.fst).Pairwise (fun a b => a.1 < b.1)) :
    Ret Try.prog 110 #[ptr r 0, .int .i64 n] w (fun v' w' => Below w.heap.size w w' ∧ ∃ z : Int, v' = .int .i64 z ∧ ((z < 0 ∧ ∀ q, q < E.length → (E.getD q default).1.1 ≠ n) ∨ ∃ j : Nat, z = (j : Int) ∧ j < E.length ∧ (E.getD j default).1.1 = n)) := by
  cases hg : mget (E.map Prod.fst) n with
  | none => exact (Find_miss9 hbase hx O hE9 (missE hg)).mono fun v' w' q => ⟨q.1, _, q.2, .inl ⟨by decide, missE hg⟩⟩
  | some U =>
    obtain ⟨m, hm, hmU, hq⟩ := hitE hu hg
    exact (Find_hit9 hbase hx O hE9 hm (by rw [hmU]) hq).mono fun v' w' q => ⟨q.1, _, q.2, .inr ⟨m, rfl, hm, by rw [hmU]⟩⟩

theorem same_ret9 {E : List RE} {M : TM} {r base base0 k : Nat} {lv : Value} {n : Int} {FK FA : Nat → Prop} {w : World} (hbase : base ≤ w.heap.size) (hb0 : base0 ≤ w.heap.size) (hx : Bx w r 117 [lv]) (O : Own w base 177 6 lv E.length (E.flatMap cellsRE)) (hE9 : E.length ≤ 100000) (hR : Rel M (E.map Prod.fst)) (hA9 : RfAll w base w.heap.size E FA) (hS : MSm M) (hK : LocksR w base0 k M FK) : Ret Try.prog 69 #[(ptr k 0), (ptr r 0), (.int .i64 n)] w (fun v' w' => Below w.heap.size w w' ∧ v' = .bool true) := by
 have hb := Below.refl w.heap.size w
 refine enter (N := 74) Try.func69 rfl rfl (by simp) fun a hN hd hA => ?_
 have c : a.tmps.getD 0 undef = (ptr k 0) := hA 0 (by simp)
 have e : a.tmps.getD 1 undef = (ptr r 0) := hA 1 (by simp)
 have f : a.tmps.getD 2 undef = (.int .i64 n) := hA 2 (by simp)
 clear hA
 refine zF fun _ a => ?_
 refine zH (zD rfl (zB (a _ _ (zF fun _ a => zF fun _ g => zH (zD rfl (zB (g _ _ (wp_block (loop_m (fun mz_ az_ w' => ∃ (i : Nat), mz_ = 10 - i ∧ (Sl az_ 0 (ptr k 0)) ∧ (Sl az_ 1 (ptr r 0)) ∧ (Sl az_ 2 (.int .i64 n)) ∧ (Sl az_ 7 (.int .i64 ((i : Int) - 1))) ∧ (i ≤ 10) ∧ (Below w.heap.size w w') ∧ (w.heap.size ≤ w'.heap.size) ∧ (LocksR w' base0 k M FK) ∧ (Bx w' r 117 [lv]) ∧ (Own w' base 177 6 lv E.length (E.flatMap cellsRE)) ∧ (RfAll w' base w.heap.size E FA)) _ hN hd ⟨0, rfl, (zL hN rfl c), (zL hN rfl e), (zL hN rfl f), (zU hN rfl), (Nat.zero_le _), hb, (Nat.le_refl _), hK, hx, O, hA9⟩ ?_)))))))))
 rintro _ z t c f ⟨i, rfl, o, q, l, e, hi, hb, x, hK, hx, O, hA9⟩
 have := hb.size
 refine zF fun _ g => zF fun _ x => zH (zG (zC c rfl e) (op_lss (zA c rfl) rfl (fun z => ?_) (fun z => ?_)))
 ·
  refine zB (x _ _ (wp_cond_true (zA c rfl) (wp_skip (g _ _ (zF fun _ g => wp_block (zF fun _ x => zH (zG (zC c rfl e) (zD (zA c rfl) (zB (x _ _ (seq_join1 (N := 74) (fun az_ w' => ∃ (y : Int), (Sl az_ 0 (ptr k 0)) ∧ (Sl az_ 1 (ptr r 0)) ∧ (Sl az_ 2 (.int .i64 n)) ∧ (Sl az_ 7 (.int .i64 ((i : Int) - 1))) ∧ (Sl az_ 8 (.int .i64 y)) ∧ (Below w.heap.size w w') ∧ (t.heap.size ≤ w'.heap.size) ∧ (LocksR w' base0 k M FK) ∧ (Bx w' r 117 [lv]) ∧ (Own w' base 177 6 lv E.length (E.flatMap cellsRE)) ∧ (RfAll w' base w.heap.size E FA)) (fun z => ?_) ?_)))))))))))
  ·
   refine zF fun _ x => zF fun _ t => zH (zG (zC c rfl e) (op_eql (zA c rfl) rfl (fun A => ?_) (fun A => ?_)))
   ·
    refine zB (t _ _ (wp_cond_true (zA c rfl) (zH (zG (zC c rfl l) (zD (zA c rfl) (zB (x _ _ ?_)))))))
    exact z _ _ _ c f ⟨n, (zL c rfl o), (zL c rfl q), (zL c rfl l), (zL c rfl e), (zU c rfl), hb, zx, hK, hx, O, hA9⟩
   refine zB (t _ _ (wp_cond_false (zA c rfl) (wp_skip (x _ _ ?_))))
   exact z _ _ _ c f ⟨((i : Int) - 1), (zL c rfl o), (zL c rfl q), (zL c rfl l), (zL c rfl e), (zU c rfl), hb, zx, hK, hx, O, hA9⟩
  rintro C D e z ⟨y, l, o, A, B, q, hb, F, hK, hx, O, hA9⟩
  have := hb.size
  refine zF fun _ x => zH (zG (zC e rfl l) (zG (zC e rfl q) (zj ok70 (WroteR (n := y) zx hS hK) ⟨(zA e rfl), ⟨(zA e rfl), trivial⟩⟩ ?_)))
  rintro F G ⟨D, C⟩
  have D := zQ D
  obtain ⟨hb, _⟩ := yE hb D
  have hK := hK.kz D
  have hx := hx.keep0 D
  have O := O.keep0 D
  have hA9 := hA9.kz D
  have C := C.mono (base' := w.heap.size) zx
  refine zD (zA e rfl) ?_
  refine zB (x _ _ (zF fun _ x => zH (zG (zC e rfl o) (zG (zC e rfl q) (zj ok110 (Find_any9 (n := y) zx hx O hE9 hR.up) ⟨(zA e rfl), ⟨(zA e rfl), trivial⟩⟩ ?_)))))
  rintro _ H ⟨D, I, rfl, G⟩
  have D := zQ D
  obtain ⟨hb, _⟩ := yE hb D
  have hK := hK.kz D
  have hx := hx.keep0 D
  have O := O.keep0 D
  have hA9 := hA9.kz D
  have C := C.keep0 D
  refine zD (zA e rfl) (zB (x _ _ (zF fun _ x => zF fun _ t => zH (zG (zA e rfl) (op_lss (zA e rfl) rfl (fun D => ?_) (fun D => ?_))))))
  ·
   refine zB (t _ _ (wp_cond_true (zA e rfl) (zF fun _ t => zF fun _ D => zH ?_)))
   have hsm := same_miss hR (G.resolve_right (fun ⟨j, H, _⟩ => by omega)).2
   refine zG (zA e rfl) (op_len_rd Try.underlying26 (zA e rfl) C.rdw (op_gtr (zA e rfl) rfl (fun H => ?_) (fun H => ?_)))
   ·
    exact absurd H (by rw [hsm.1]; decide)
   refine zG (zA e rfl) ?_
   refine zS (j := 3) (dj := 32) (b := false) rfl rfl rfl (zA e rfl) (zG (zC e rfl l) (zS (j := 3) (dj := 32) (b := false) rfl rfl rfl (zA e rfl) (zG (zC e rfl q) (zS (j := 3) (dj := 32) (b := false) rfl rfl rfl (zA e rfl) (zj ok62 (DoomedR (n := y) hK) ⟨(zA e rfl), ⟨(zA e rfl), trivial⟩⟩ ?_)))))
   rintro _ I ⟨H, rfl⟩
   have H := zQ H
   obtain ⟨hb, _⟩ := yE hb H
   have hK := hK.kz H
   have hx := hx.keep0 H
   have O := O.keep0 H
   have hA9 := hA9.kz H
   rcases Bool.eq_false_or_eq_true ((txAt M y).doomed) with H | H
   ·
    exact absurd (hsm.2.symm.trans H) zz
   rw [H]
   refine zd (zA e rfl) (zA e rfl) (zB (D _ _ (wp_cond_false (zA e rfl) (wp_skip (t _ _ (wp_exit (then_exit (blk_hit (g _ _ (zH (zG (zC e rfl B) (op_add (zA e rfl) rfl (add64 zx) (zD (zA e rfl) (zB ?_))))))))))))))
   -- round 14T 28T 31F 35F
   exact zg _ e z ⟨(i + 1), rfl, (zL e rfl l), (zL e rfl o), (zL e rfl A), (zU e rfl).trans (congrArg (Value.int .i64) zx), zx, hb, zx, hK, hx, O, hA9⟩ zx
  refine zB (t _ _ (wp_cond_false (zA e rfl) (wp_skip (x _ _ (zF fun _ x => zH ?_)))))
  obtain ⟨d, hzj, D, hjn⟩ := G.resolve_left (fun h => by omega)
  have hsh := same_hit hR D hjn
  have hwl : (E.getD d default).1.2.writes.length ≤ 50000 := by rw [← hsh.1]; exact txAt_sm hS
  obtain ⟨hLj, hRj, _, hWj, _⟩ := hA9.rds D
  refine zG (zC e rfl o) (op_nil (zA e rfl) (zM fld117_0 (zA e rfl) (zN one115 (zA e rfl) (hx.cell rfl) (zG (zA e rfl) (zh slt115 (zA e rfl) O.rdw (zA e rfl) zx zx ?_)))))
  intro J G H I D
  refine zX (cs := [(.int .i64 (E.getD d default).1.1), (E.getD d default).2.la, (.int .u64 (E.getD d default).1.2.stamp), (E.getD d default).2.rv, (E.getD d default).2.wv, (.bool (E.getD d default).1.2.doomed)]) agg177 rfl (zA e rfl) (fun j u hu => D j u (by have := (List.getElem?_eq_some_iff.1 hu).1; simpa using this) ((el_re (i := d) zx zx) j u hu)) (op_alloc (cs := [(.int .i64 0), (.slice none 0 0), (.int .u64 0), (.slice none 0 0), (.slice none 0 0), (.bool false)]) zero177 rfl ?_)
  intro J H K I D G
  have I : ¬ FK H := fun hf => by have := (hK.lt _ hf).2; omega
  have J : ¬ FA H := fun hf => by have := (hA9.lt _ hf).2; omega
  have K : lv.ownBlock ≠ some H := fun hh => by have := (O.lt _ hh).2; omega
  obtain ⟨hb, _⟩ := yE hb G
  have hx := hx.keep0 G
  have hLj := hLj.keep0 G
  have hRj := hRj.keep0 G
  have hWj := hWj.keep0 G
  have L := D
  refine zZ size177 (zA e rfl) (zA e rfl) rfl (by simp only [yA, yB, yC, yD, hLj.one, hRj.one, hWj.one]; try rfl) D rfl ?_
  intro Q D P
  have := P.size
  have hK := (hK.kz G).keepG (Gr.of P) (Dj.one I)
  have hx := hx.keep P (sN hx L)
  have O := (O.keep0 G).keep P (.inr K)
  have hA9 := (hA9.kz G).keepG (Gr.of P) (Dj.one J)
  have C := (C.keep0 G).keepX L P zz
  have hLj := hLj.keep P sR
  have hRj := hRj.keep P sR
  have hWj := hWj.keep P sR
  have hb := below_step1 hb P hb.size zx
  refine zB (x _ _ (zF fun _ x => zF fun _ t => reg_split (hd := [_, _, _, _, _]) (tl := _) 5 mixed zy rfl rfl (any_quiet (Φ := phiL [(fun uz _ => uz = (ptr k 0)), (fun uz _ => uz = (.int .i64 y)), (fun uz _ => uz = (.bool (txAt M y).doomed)), (fun uz _ => uz = (ptr H 5)), (fun uz _ => uz = (.bool (E.getD d default).1.2.doomed))]) zy zy zy e (StL.get (StL.eq (StL.eq (StL.eq (StL.eq (StL.eq (StL.nil _))))))) (ObL.get (s := 5) (ObL.cons ?_ (ObL.cons ?_ (ObL.cons ?_ (ObL.cons ?_ (ObL.cons ?_ (ObL.nil)))))) rfl) ?_)))
  ·
   intro aA wA hNA hRA hbsA hdpA
   have G := (hbsA 0 rfl).trans (zL e rfl l)
   refine zG (zC hNA rfl G) ?_
   exact obN_end rfl rfl (grown_refl _ _)
  ·
   intro aA wA hNA hRA hbsA hdpA
   have G := (hbsA 8 rfl).trans (zL e rfl q)
   refine zG (zC hNA rfl G) ?_
   exact obN_end rfl rfl (grown_refl _ _)
  ·
   intro aA wA hNA hRA hbsA hdpA
   have hRA : Q.grownBy wA none := hRA
   have := hRA.size
   have hK := hK.kz hRA
   have q : Sl aA 44 (ptr k 0) := hdpA 0 _ 44 zy rfl rfl
   have G : Sl aA 45 (.int .i64 y) := hdpA 1 _ 45 zy rfl rfl
   clear hbsA hdpA
   refine zj ok62 (DoomedR (n := y) hK) ⟨(zC hNA rfl q), ⟨(zC hNA rfl G), trivial⟩⟩ ?_
   rintro _ G ⟨q, rfl⟩
   have q := zQ q
   have := q.size
   exact obN_end rfl rfl (q)
  ·
   intro aA wA hNA hRA hbsA hdpA
   have q := (hbsA 11 rfl).trans (zU e rfl)
   refine zM fld177_5 (zC hNA rfl q) ?_
   exact obN_end rfl rfl (grown_refl _ _)
  ·
   intro aA wA hNA hRA hbsA hdpA
   have hRA : Q.grownBy wA none := hRA
   have := hRA.size
   have D := D.keep0 hRA
   have q : Sl aA 47 (ptr H 5) := hdpA 3 _ 47 zy rfl rfl
   clear hbsA hdpA
   refine zN one4 (zC hNA rfl q) (D.cell rfl) ?_
   exact obN_end rfl rfl (grown_refl _ _)
  intro L P q J I K G
  have J := J.trans z
  have z := (I 0 rfl).trans (zL e rfl l)
  have l := (I 1 rfl).trans (zL e rfl o)
  have o := (I 2 rfl).trans (zL e rfl A)
  have A := (I 7 rfl).trans (zL e rfl B)
  have B := (I 9 rfl).trans (zU e rfl)
  have R := (I 11 rfl).trans (zU e rfl)
  have e : Sl L 46 (.bool (txAt M y).doomed) := K 2 _ 46 rfl rfl
  have S : Sl L 48 (.bool (E.getD d default).1.2.doomed) := K 4 _ 48 rfl rfl
  clear I K
  have G : Q.grownBy P none := G
  obtain ⟨hb, _⟩ := yE hb G
  have hK := hK.kz G
  have hx := hx.keep0 G
  have O := O.keep0 G
  have hA9 := hA9.kz G
  have C := C.keep0 G
  have hLj := hLj.keep0 G
  have hRj := hRj.keep0 G
  have hWj := hWj.keep0 G
  have D := D.keep0 G
  refine split_end (from_still (m := 14) 9 (hd := [_, _, _, _, _, _, _, _, _]) zy rfl rfl (st_step rfl (fun _ G => op_neb Try.underlying4 (zC q rfl e) (zC q rfl S) G) ?_))
  rcases Bool.eq_false_or_eq_true (((txAt M y).doomed != (E.getD d default).1.2.doomed)) with e | e
  ·
   rw [e]
   refine st_step rfl (fun _ G => zG (zA q rfl) G) (st_g_false (j := 6) (dj := 50) (b := false) rfl rfl rfl (zA q rfl) rfl rfl (st_g_false (j := 6) (dj := 50) (b := false) rfl rfl rfl (zA q rfl) rfl rfl (st_g_false (j := 6) (dj := 50) (b := false) rfl rfl rfl (zA q rfl) rfl rfl (st_g_false (j := 6) (dj := 50) (b := false) rfl rfl rfl (zA q rfl) rfl rfl (st_g_false (j := 6) (dj := 50) (b := false) rfl rfl rfl (zA q rfl) rfl rfl (st_g_false (j := 6) (dj := 50) (b := false) rfl rfl rfl (zA q rfl) rfl rfl (st_step rfl (fun _ G => zc (zA q rfl) rfl G) (st_nil (from_end ?_ rfl)))))))))
   refine t _ _ (wp_cond_true (zA q rfl) (zF fun _ t => zH (zD rfl (zB (t _ _ (wp_ret (zO (zb (zO (zO (zb (zO ( (ret1 rfl J (zA q rfl) ⟨_, rfl, ?_⟩))))))))))))))
   exact absurd e (by rw [hsh.2]; simp)
  rw [e]
  refine st_step rfl (fun _ G => zG (zA q rfl) G) (st_g_true (j := 6) (dj := 50) (b := false) rfl rfl rfl (zA q rfl) (st_step rfl (fun _ G => zG (zC q rfl B) G) (st_g_true (j := 6) (dj := 50) (b := false) rfl rfl rfl (zA q rfl) (st_step rfl (fun _ G => op_len_rd Try.underlying26 (zA q rfl) C.rdw G) (st_g_true (j := 6) (dj := 50) (b := false) rfl rfl rfl (zA q rfl) ?_)))))
  refine st_step rfl (fun _ G => zM fld177_4 (zC q rfl R) G) (st_g_true (j := 6) (dj := 50) (b := false) rfl rfl rfl (zA q rfl) (st_step rfl (fun _ G => zN one26 (zA q rfl) (D.cell rfl) G) (st_g_true (j := 6) (dj := 50) (b := false) rfl rfl rfl (zA q rfl) (st_step rfl (fun _ G => op_len_rd Try.underlying26 (zA q rfl) hWj G) (st_g_true (j := 6) (dj := 50) (b := false) rfl rfl rfl (zA q rfl) (st_step rfl (fun _ G => op_cmp (b := (decide ((((txAt M y).writes.length : Nat) : Int) ≠ (((E.getD d default).1.2.writes.length : Nat) : Int)))) (zA q rfl) (zA q rfl) (b_neq rfl) G) (st_step rfl (fun _ G => zd (zA q rfl) (zA q rfl) G) (st_nil (from_end ?_ rfl)))))))))
  refine t _ _ (wp_cond_split (zA q rfl) (fun e => ?_) (fun e => ?_))
  ·
   have e := of_decide_eq_true e
   exact absurd (by rw [hsh.1]) e
  have e := of_decide_eq_false e
  refine wp_skip (x _ _ (zF fun _ x => zH (zD rfl (zB (x _ _ (wp_block (loop_m (fun mz_ az_ w' => ∃ (p : Nat), mz_ = (E.getD d default).1.2.writes.length - p ∧ (Sl az_ 0 (ptr k 0)) ∧ (Sl az_ 1 (ptr r 0)) ∧ (Sl az_ 2 (.int .i64 n)) ∧ (Sl az_ 7 (.int .i64 ((i : Int) - 1))) ∧ (Sl az_ 9 F) ∧ (Sl az_ 11 (ptr H 0)) ∧ (Sl az_ 12 (.int .i64 ((p : Nat) : Int))) ∧ (p ≤ (E.getD d default).1.2.writes.length) ∧ (Below w.heap.size w w') ∧ (P.heap.size ≤ w'.heap.size) ∧ (LocksR w' base0 k M FK) ∧ (Bx w' r 117 [lv]) ∧ (Own w' base 177 6 lv E.length (E.flatMap cellsRE)) ∧ (RfAll w' base w.heap.size E FA) ∧ (Own w' w.heap.size 9 1 F (txAt M y).writes.length ((txAt M y).writes.map sv)) ∧ (RdC w' 0 w.heap.size 1 (E.getD d default).2.la (E.getD d default).1.2.label.length ((E.getD d default).1.2.label.map u16v)) ∧ (RdC w' 0 w.heap.size 2 (E.getD d default).2.rv (E.getD d default).2.D.length ((E.getD d default).2.D.flatMap cellsRd)) ∧ (RdC w' 0 w.heap.size 1 (E.getD d default).2.wv (E.getD d default).1.2.writes.length ((E.getD d default).1.2.writes.map sv)) ∧ (Bx w' H 177 [(.int .i64 (E.getD d default).1.1), (E.getD d default).2.la, (.int .u64 (E.getD d default).1.2.stamp), (E.getD d default).2.rv, (E.getD d default).2.wv, (.bool (E.getD d default).1.2.doomed)])) _ q J ⟨0, rfl, (zL q rfl z), (zL q rfl l), (zL q rfl o), (zL q rfl A), (zL q rfl B), (zL q rfl R), (zU q rfl), (Nat.zero_le _), hb, (Nat.le_refl _), hK, hx, O, hA9, C, hLj, hRj, hWj, D⟩ ?_)))))))
  rintro _ I K e F ⟨p, rfl, A, B, q, H, o, z, l, hp, hb, J, hK, hx, O, hA9, C, hLj, hRj, hWj, D⟩
  have := hb.size
  refine zF fun _ x => zF fun _ t => zH (zG (zC e rfl l) (zG (zC e rfl o) (op_len_rd Try.underlying26 (zA e rfl) C.rdw (op_lss (zA e rfl) (zA e rfl) (fun I => ?_) (fun I => ?_)))))
  ·
   refine zB (t _ _ (wp_cond_true (zA e rfl) (wp_skip (x _ _ (zF fun _ x => wp_block (zF fun _ t => reg_still mixed zy ?_))))))
   intro J I
   obtain ⟨hb, _⟩ := yE hb I
   have hK := hK.kz I
   have hx := hx.keep0 I
   have O := O.keep0 I
   have hA9 := hA9.kz I
   have C := C.keep0 I
   have hLj := hLj.keep0 I
   have hRj := hRj.keep0 I
   have hWj := hWj.keep0 I
   have D := D.keep0 I
   refine st_step rfl (fun _ G => zG (zC e rfl o) G) (st_step rfl (fun _ G => zG (zC e rfl l) G) (st_index_rd slt26 (zA e rfl) C.rdw (zA e rfl) zx zx ?_))
   intro J K P L I
   refine st_step rfl (fun _ G => zN (v := (Value.string (bs ((txAt M y).writes.getD p [])))) one9 (zA e rfl) (by have := I 0 (.string (bs ((txAt M y).writes.getD p []))) zz (el_sv (i := p) zx zx); simpa using this) G) (st_step rfl (fun _ G => zM fld177_4 (zC e rfl z) G) (st_step rfl (fun _ G => zN one26 (zA e rfl) (D.cell rfl) G) (st_step rfl (fun _ G => zG (zC e rfl l) G) (st_index_rd slt26 (zA e rfl) hWj (zA e rfl) zx zx ?_))))
   intro P J L K I
   refine st_step rfl (fun _ G => zN (v := (Value.string (bs ((E.getD d default).1.2.writes.getD p [])))) one9 (zA e rfl) (by have := I 0 (.string (bs ((E.getD d default).1.2.writes.getD p []))) zz (el_sv (i := p) zx zx); simpa using this) G) (st_step rfl (fun _ G => op_sneqb (b := (decide (((txAt M y).writes.getD p []) ≠ ((E.getD d default).1.2.writes.getD p [])))) (zA e rfl) (zA e rfl) rfl G) (st_nil (t _ _ (wp_cond_split (zA e rfl) (fun J => ?_) (fun J => ?_)))))
   ·
    have J := of_decide_eq_true J
    exact absurd (by rw [hsh.1]) J
   have J := of_decide_eq_false J
   refine wp_skip (x _ _ (zH (zG (zC e rfl l) (op_add (zA e rfl) rfl (add64 zx) (zD (zA e rfl) (zB ?_))))))
   -- round 14T 28F 49F 57F 61T 73F
   exact zg _ e F ⟨(p + 1), rfl, (zL e rfl A), (zL e rfl B), (zL e rfl q), (zL e rfl H), (zL e rfl o), (zL e rfl z), (zU e rfl).trans (congrArg (Value.int .i64) zx), zx, hb, zx, hK, hx, O, hA9, C, hLj, hRj, hWj, D⟩ zx
  refine zB (t _ _ (wp_cond_false (zA e rfl) (wp_exit (then_exit (then_exit (blk_hit (g _ _ (zH (zG (zC e rfl H) (op_add (zA e rfl) rfl (add64 zx) (zD (zA e rfl) (zB ?_))))))))))))
  -- round 14T 28F 49F 57F 61F
  exact zg _ e F ⟨(i + 1), rfl, (zL e rfl A), (zL e rfl B), (zL e rfl q), (zU e rfl).trans (congrArg (Value.int .i64) zx), zx, hb, zx, hK, hx, O, hA9⟩ zx
 refine zB (x _ _ (wp_cond_false (zA c rfl) (wp_exit (then_exit (then_exit (blk_hit (a _ _ (zF fun _ a => zH (zD rfl (zB (a _ _ (wp_ret (ret1 rfl f (zA c rfl) ⟨_, rfl, ?_⟩)))))))))))))
 exact ⟨hb, rfl⟩

end Go.Proofs.Ytmhdbphpmgjpcaa

namespace Go.Proofs.Ytmhdbphpmgjpcaa
open Go.Gx Go.RowKit
theorem SameQ {M : TM} {r base base0 k c : Nat} {n : Int} {FK F : Nat → Prop} {w : World} (hbase : base ≤ w.heap.size) (hb0 : base0 ≤ w.heap.size) (hM : MOk M) (hS : MSm M) (hK : LocksR w base0 k M FK) (h : RfQ w base r M c F) : Ret Try.prog 69 #[ptr k 0, ptr r 0, .int .i64 n] w (fun v' w' => Below w.heap.size w w' ∧ v' = .bool true) := by
  obtain ⟨lv, E, hR, hc, h⟩ := h
  have hE := hR.len; rw [List.length_map] at hE
  obtain ⟨O, hA, hP⟩ := h.pieces
  exact same_ret9 hbase hb0 h.bx O (by have := hM.1; omega) hR (allOf O hA) hS hK
end Go.Proofs.Ytmhdbphpmgjpcaa

namespace Go.Proofs.Ytmhdbphpmgjpcaa
open Go.Gx Go.RowKit
attribute [local irreducible] wpList wpStill Code.wp Calls

theorem MIn.perm {M M2 : TM} {i : Nat} (h : MIn M i) (hp : M2.Perm M) : MIn M2 i := ⟨by rw [hp.length_eq]; exact h.1, (hp.map Prod.fst).nodup_iff.2 h.2.1, fun a ha => h.2.2 a (hp.mem_iff.1 ha)⟩
theorem comL_len {M : TM} {n : Int} : (comL M n).length ≤ M.length := by
  unfold comL
  cases mget M n with
  | none => exact Nat.zero_le _
  | some t => exact Nat.le_trans (List.length_filter_le _ _) others_len
theorem RfQ.grow {w : World} {base r c c2 : Nat} {M : TM} {F : Nat → Prop} (h : RfQ w base r M c F) (hc : c ≤ c2) : RfQ w base r M c2 F := by obtain ⟨lv, E, h1, h2, h⟩ := h; exact ⟨lv, E, h1, fun a ha => Nat.le_trans (h2 a ha) hc, h⟩

set_option maxHeartbeats 2000000 in
theorem LockAll_ret (L : List OpT) (vL : Value) (w : World) (hL : L.length ≤ 9223372036854775807) (hsz : ∀ x ∈ L, (opL x).length ≤ 9223372036854775807) (hr : RdC w 0 w.heap.size 6 vL L.length (L.flatMap cellsOp)) (hls : ∀ x9 ∈ L.map opLab, RdC w 0 w.heap.size 1 x9.1 x9.2.length (x9.2.map u16v)) (hrs : ∀ x9 ∈ L.map opRds, RdC w 0 w.heap.size 1 x9.1 x9.2.length (x9.2.map sv)) (hnW : ∀ o ∈ L, (Lit.int .i64 (opN o)).wf = true) : Ret Try.prog 14 #[vL] w (fun v' w' => Below w.heap.size w w' ∧ v' = .bool true) := by
 have hb := Below.refl w.heap.size w
 refine enter (N := 181) Try.func14 rfl rfl (by simp) fun a hN hd hA => ?_
 have c : a.tmps.getD 0 undef = vL := hA 0 (by simp)
 clear hA
 refine zF fun _ f => zH ?_
 refine zD rfl (zB (f _ _ (zF fun _ f => zF fun _ g => zH (zj ok52 (begun19_ret _) trivial ?_))))
 rintro _ p ⟨m, rfl⟩
 have m := zQ m
 obtain ⟨hb, _⟩ := yE hb m
 have hr := hr.keep0 m
 have hls := all9 hls fun _ h => h.keep0 m
 have hrs := all9 hrs fun _ h => h.keep0 m
 refine op_not (zA hN rfl) (zB (g _ _ (wp_cond_false (zA hN rfl) (wp_skip (f _ _ (zF fun _ f => zF fun _ g => zH (zG (zC hN rfl c) (op_len_rd Try.underlying99 (zA hN rfl) hr (op_gtr (zA hN rfl) rfl (fun q => ?_) (fun q => ?_))))))))))
 ·
  refine zB (g _ _ (wp_cond_true (zA hN rfl) (zF fun _ g => zH (zD rfl (zB (g _ _ (wp_ret (zO ( (ret1 rfl hd (zA hN rfl) ⟨_, rfl, ?_⟩))))))))))
  exact ⟨hb, rfl⟩
 refine zB (g _ _ (wp_cond_false (zA hN rfl) (wp_skip (f _ _ (zF fun _ f => zH (zj ok53 (lockNewR) trivial ?_))))))
 rintro _ C ⟨z, B, A, rfl, t⟩
 have D : ∀ x, A x → p.heap.size ≤ x := fun x hx => (t.lt x hx).1
 have z := zQ z
 obtain ⟨hb, _⟩ := yE hb z
 have hls := all9 hls fun _ h => h.keep0 z
 have hrs := all9 hrs fun _ h => h.keep0 z
 have t : LocksR C w.heap.size B ([] : TM) A := t.mono zx
 refine zf (pv := []) (v := (Value.agg #[(.slice none 0 0)])) trivial zy (op_box (cs := [(.slice none 0 0)]) (zA hN rfl) rfl ?_)
 intro J F K O I H
 have P : ¬ A F := fun hf => by have := (t.lt _ hf).2; omega
 obtain ⟨hb, _⟩ := yE hb H
 have hr := (hr.keep0 z).keep0 H
 have hls := all9 hls fun _ h => h.keep0 H
 have hrs := all9 hrs fun _ h => h.keep0 H
 have t := t.kz H
 refine zD (zA hN rfl) (zD (zA hN rfl) (zB (f _ _ (zF fun _ f => zF fun _ g => zH (zD rfl (zB (g _ _ (wp_block (loop_m (fun mz_ az_ w' => ∃ (i : Nat) (M : TM) (kk : Nat) (FK FR : Nat → Prop), mz_ = L.length - i ∧ (Sl az_ 0 vL) ∧ (Sl az_ 4 (ptr F 0)) ∧ (Sl az_ 5 (.int .i64 ((i : Nat) : Int))) ∧ (Sl az_ 3 (ptr kk 0)) ∧ (i ≤ L.length) ∧ (MIn M i) ∧ (Dj FK FR) ∧ (Below w.heap.size w w') ∧ (J.heap.size ≤ w'.heap.size) ∧ (RdC w' 0 w.heap.size 6 vL L.length (L.flatMap cellsOp)) ∧ (∀ x9 ∈ (L.map opLab), RdC w' 0 w.heap.size 1 x9.1 x9.2.length (x9.2.map u16v)) ∧ (∀ x9 ∈ (L.map opRds), RdC w' 0 w.heap.size 1 x9.1 x9.2.length (x9.2.map sv)) ∧ (LocksR w' w.heap.size kk M FK) ∧ (RfQ w' w.heap.size F M (8 * i) FR)) _ hN hd ⟨0, [], B, A, (fun x => x = F), rfl, (zL hN rfl c), (zU hN rfl), (zU hN rfl), (zU hN rfl), (Nat.zero_le _), MIn.start, (fun x hx e => P (e ▸ hx)), hb, (Nat.le_refl _), hr, hls, hrs, t, (RfQ.start zx I)⟩ ?_)))))))))
 rintro _ X W Q T ⟨i, M, kk, FK, FR, rfl, U, S, V, R, hi, hMi, hdj, hb, Y, hr, hls, hrs, hK, hQ⟩
 have := hb.size
 refine zF fun _ g => zF fun _ Z => zH (zG (zC Q rfl V) (zG (zC Q rfl U) (op_len_rd Try.underlying99 (zA Q rfl) hr (op_lss (zA Q rfl) (zA Q rfl) (fun aa => ?_) (fun aa => ?_)))))
 ·
  refine zB (Z _ _ (wp_cond_true (zA Q rfl) (wp_skip (g _ _ (zF fun _ g => wp_block (zF fun _ Z => zH (zG (zC Q rfl U) (zG (zC Q rfl V) ?_))))))))
  have hLi : RdC W 0 w.heap.size 1 (opLv (L.getD i dOp)) (opL (L.getD i dOp)).length ((opL (L.getD i dOp)).map u16v) := hls _ (List.mem_map.2 ⟨_, getD_mem (d := dOp) (show i < L.length by omega), rfl⟩)
  have hRi : RdC W 0 w.heap.size 1 (opRv (L.getD i dOp)) (opR (L.getD i dOp)).length ((opR (L.getD i dOp)).map sv) := hrs _ (List.mem_map.2 ⟨_, getD_mem (d := dOp) (show i < L.length by omega), rfl⟩)
  have hsi := hsz _ (getD_mem (d := dOp) (show i < L.length by omega))
  have hnw := hnW _ (getD_mem (d := dOp) (show i < L.length by omega))
  refine zh slt99 (zA Q rfl) hr (zA Q rfl) zx zx ?_
  intro ac ae ad af ab
  refine zX (cs := [(.int .i64 (opK (L.getD i dOp))), (.int .i64 (opN (L.getD i dOp))), (opLv (L.getD i dOp)), (.int .u64 ((opS (L.getD i dOp)).toNat : Int)), (opRv (L.getD i dOp)), (.string (bs (opW (L.getD i dOp))))]) agg103 rfl (zA Q rfl) (fun j u hu => ab j u (by have := (List.getElem?_eq_some_iff.1 hu).1; simpa using this) ((el_op (i := i) zx zx) j u hu)) (op_alloc (cs := [(.int .i64 0), (.int .i64 0), (.slice none 0 0), (.int .u64 0), (.slice none 0 0), (.string (bs []))]) zero103 rfl ?_)
  intro aj ah al ak ag ai
  have am : ¬ FK ah := fun hf => by have := (hK.lt _ hf).2; omega
  have an : ¬ FR ah := fun hf => by have := (hQ.lt _ hf).2; omega
  obtain ⟨hb, _⟩ := yE hb ai
  have hls := all9 hls fun _ h => h.keep0 ai
  have hrs := all9 hrs fun _ h => h.keep0 ai
  have hLi := hLi.keep0 ai
  have hRi := hRi.keep0 ai
  refine zZ size103 (zA Q rfl) (zA Q rfl) rfl (by simp only [yA, yB, yC, yD, hLi.one, hRi.one]; try rfl) ag rfl ?_
  intro ap ag ao
  have := ao.size
  have hls := all9 hls fun _ h => h.keep ao sR
  have hrs := all9 hrs fun _ h => h.keep ao sR
  have hK := (hK.kz ai).keepG (Gr.of ao) (Dj.one am)
  have hQ := (hQ.kz ai).keepG (Gr.of ao) (Dj.one an)
  have hLi := hLi.keep ao sR
  have hRi := hRi.keep ao sR
  have hb := below_step1 hb ao hb.size zx
  refine zB (Z _ _ (zF fun _ Z => zF fun _ J3 => zH (zY agg103 rfl (zA Q rfl) ag (zj ok56 (light_ret (L.getD i dOp) _ zx (hLi.mono (Nat.zero_le _) zx) (hRi.mono (Nat.zero_le _) zx)) ⟨(zA Q rfl), trivial⟩ ?_))))
  rintro _ ar ⟨aq, rfl⟩
  have aq := zQ aq
  obtain ⟨hb, _⟩ := yE hb aq
  have hr := ((hr.keep0 ai).keep ao sR).keep0 aq
  have hls := all9 hls fun _ h => h.keep0 aq
  have hrs := all9 hrs fun _ h => h.keep0 aq
  have hK := hK.kz aq
  have hQ := hQ.kz aq
  have hLi := hLi.keep0 aq
  have hRi := hRi.keep0 aq
  have ag := ag.keep0 aq
  rcases Bool.eq_false_or_eq_true ((lightB (L.getD i dOp))) with au | au
  ·
   rw [au]
   refine op_not (zA Q rfl) (zB (J3 _ _ (wp_cond_false (zA Q rfl) (wp_skip (Z _ _ (zF fun _ Z => zF fun _ J3 => zH (zM fld103_0 (zA Q rfl) ?_)))))))
   have hkm := tmod_lt (n := opK (L.getD i dOp)) (k := 11) zz
   have hlg := lightB_ok au
   have av := mayL_len hlg.1
   have aw := hlg.2.1
   have ax : (tix 11 (opK (L.getD i dOp))) < 11 := tix_lt zz _
   refine zN one3 (zA Q rfl) (ag.cell rfl) (op_rem (r := (Int.tmod (opK (L.getD i dOp)) 11)) (zA Q rfl) rfl zz rfl (op_add (zA Q rfl) rfl (add64 zx) (op_rem (r := (((tix 11 (opK (L.getD i dOp))) : Nat) : Int)) (zA Q rfl) rfl zz (tix_eq zz _) (zB (J3 _ _ (wp_block (zF fun _ J3 => zF fun _ J4 => zH (op_eql (zA Q rfl) rfl (fun ay => ?_) (fun ay => ?_)))))))))
   ·
    refine zD (zA Q rfl) (zB (J4 _ _ (wp_cond_true (zA Q rfl) (wp_skip (J3 _ _ (wp_cond_true (zA Q rfl) (zF fun _ J3 => reg_split (hd := [_, _, _, _, _, _, _, _, _, _, _, _, _, _, _, _]) (tl := _) 16 mixed zy rfl rfl (any_env (φ := phiV [(fun uz => uz = (ptr kk 0)), (fun uz => uz = (ptr ah 1)), (fun uz => uz = (.int .i64 (opN (L.getD i dOp)))), (fun uz => uz = (ptr ah 2)), (fun uz => uz = (opLv (L.getD i dOp))), (fun uz => uz = (ptr ah 3)), (fun uz => uz = (.int .u64 ((opS (L.getD i dOp)).toNat : Int))), (fun _ => True), (fun uz => uz = (ptr F 0)), (fun uz => uz = (ptr ah 1)), (fun uz => uz = (.int .i64 (opN (L.getD i dOp)))), (fun uz => uz = (ptr ah 2)), (fun uz => uz = (opLv (L.getD i dOp))), (fun uz => uz = (ptr ah 3)), (fun uz => uz = (.int .u64 ((opS (L.getD i dOp)).toNat : Int))), (fun _ => True)]) (G := fun w' => Bx w' ah 103 [(.int .i64 (opK (L.getD i dOp))), (.int .i64 (opN (L.getD i dOp))), (opLv (L.getD i dOp)), (.int .u64 ((opS (L.getD i dOp)).toNat : Int)), (opRv (L.getD i dOp)), (.string (bs (opW (L.getD i dOp))))]) [7, 15] zy zy zy zy Q (fun p w2 E h => h.keep0 E) ag (ObEs.cons ?_ (ObEs.cons ?_ (ObEs.cons ?_ (ObEs.cons ?_ (ObEs.cons ?_ (ObEs.cons ?_ (ObEs.cons ?_ (ObEs.pass rfl (ObEs.cons ?_ (ObEs.cons ?_ (ObEs.cons ?_ (ObEs.cons ?_ (ObEs.cons ?_ (ObEs.cons ?_ (ObEs.cons ?_ (ObEs.pass rfl (ObEs.nil))))))))))))))))) (by simp only [putsL_defers]) ?_))))))))
    ·
     intro eA aA wA hNA hGA hbsA hdpA
     have az := (hbsA 3 rfl).trans (zL Q rfl R)
     refine zG (zC hNA rfl az) ?_
     exact obE_end rfl rfl rfl
    ·
     intro eA aA wA hNA hGA hbsA hdpA
     have aB := (hbsA 6 rfl).trans (zU Q rfl)
     refine zM fld103_1 (zC hNA rfl aB) ?_
     exact obE_end rfl rfl rfl
    ·
     intro eA aA wA hNA hGA hbsA hdpA
     have aC : Sl aA 77 (ptr ah 1) := (hdpA 1 _ 77 zy rfl rfl).2 rfl
     refine zN one3 (zC hNA rfl aC) (hGA.cell rfl) ?_
     exact obE_end rfl rfl rfl
    ·
     intro eA aA wA hNA hGA hbsA hdpA
     have aB := (hbsA 6 rfl).trans (zU Q rfl)
     refine zM fld103_2 (zC hNA rfl aB) ?_
     exact obE_end rfl rfl rfl
    ·
     intro eA aA wA hNA hGA hbsA hdpA
     have aD : Sl aA 79 (ptr ah 2) := (hdpA 3 _ 79 zy rfl rfl).2 rfl
     refine zN one54 (zC hNA rfl aD) (hGA.cell rfl) ?_
     exact obE_end rfl rfl rfl
    ·
     intro eA aA wA hNA hGA hbsA hdpA
     have aB := (hbsA 6 rfl).trans (zU Q rfl)
     refine zM fld103_3 (zC hNA rfl aB) ?_
     exact obE_end rfl rfl rfl
    ·
     intro eA aA wA hNA hGA hbsA hdpA
     have aE : Sl aA 81 (ptr ah 3) := (hdpA 5 _ 81 zy rfl rfl).2 rfl
     refine zN one61 (zC hNA rfl aE) (hGA.cell rfl) ?_
     exact obE_end rfl rfl rfl
    ·
     intro eA aA wA hNA hGA hbsA hdpA
     have aF := (hbsA 4 rfl).trans (zL Q rfl S)
     refine zG (zC hNA rfl aF) ?_
     exact obE_end rfl rfl rfl
    ·
     intro eA aA wA hNA hGA hbsA hdpA
     have aB := (hbsA 6 rfl).trans (zU Q rfl)
     refine zM fld103_1 (zC hNA rfl aB) ?_
     exact obE_end rfl rfl rfl
    ·
     intro eA aA wA hNA hGA hbsA hdpA
     have aG : Sl aA 85 (ptr ah 1) := (hdpA 9 _ 85 zy rfl rfl).2 rfl
     refine zN one3 (zC hNA rfl aG) (hGA.cell rfl) ?_
     exact obE_end rfl rfl rfl
    ·
     intro eA aA wA hNA hGA hbsA hdpA
     have aB := (hbsA 6 rfl).trans (zU Q rfl)
     refine zM fld103_2 (zC hNA rfl aB) ?_
     exact obE_end rfl rfl rfl
    ·
     intro eA aA wA hNA hGA hbsA hdpA
     have aH : Sl aA 87 (ptr ah 2) := (hdpA 11 _ 87 zy rfl rfl).2 rfl
     refine zN one54 (zC hNA rfl aH) (hGA.cell rfl) ?_
     exact obE_end rfl rfl rfl
    ·
     intro eA aA wA hNA hGA hbsA hdpA
     have aB := (hbsA 6 rfl).trans (zU Q rfl)
     refine zM fld103_3 (zC hNA rfl aB) ?_
     exact obE_end rfl rfl rfl
    ·
     intro eA aA wA hNA hGA hbsA hdpA
     have aI : Sl aA 89 (ptr ah 3) := (hdpA 13 _ 89 zy rfl rfl).2 rfl
     refine zN one61 (zC hNA rfl aI) (hGA.cell rfl) ?_
     exact obE_end rfl rfl rfl
    intro aO aJ _ aM aL aN aK o_ ho_; obtain rfl := zE ho_
    obtain ⟨hb, _⟩ := yE hb aJ
    have hls := all9 hls fun _ h => h.keep0 aJ
    have hrs := all9 hrs fun _ h => h.keep0 aJ
    have hK := hK.kz aJ
    have hQ := hQ.kz aJ
    have hLi := hLi.keep0 aJ
    have ag := ag.keep0 aJ
    have aP : Sl aM 76 (ptr kk 0) := (aK 0 _ 76 zy rfl rfl).2 rfl
    have aQ : Sl aM 78 (.int .i64 (opN (L.getD i dOp))) := (aK 2 _ 78 zy rfl rfl).2 rfl
    have aR : Sl aM 80 (opLv (L.getD i dOp)) := (aK 4 _ 80 zy rfl rfl).2 rfl
    have aS : Sl aM 82 (.int .u64 ((opS (L.getD i dOp)).toNat : Int)) := (aK 6 _ 82 zy rfl rfl).2 rfl
    refine zj ok54 (EnterR (n := (opN (L.getD i dOp))) (s := ((opS (L.getD i dOp)).toNat : Int)) (l := (opL (L.getD i dOp))) zx (lo := w.heap.size) hLi zx (by first | decide | omega) hK) ⟨(zC aL rfl aP), ⟨(zC aL rfl aQ), ⟨(zC aL rfl aR), ⟨(zC aL rfl aS), trivial⟩⟩⟩⟩ ?_
    rintro _ aX ⟨aU, rfl, aV, aT, aW⟩
    have aY := hQ.lt
    have aZ := ag.lt
    have hK_old := hK
    have := aU.size
    have hls := all9 hls fun _ h => h.keepG aU (fun k hk => .inr (by have := hK_old.lt k hk; omega))
    have hrs := all9 hrs fun _ h => h.keepG aU (fun k hk => .inr (by have := hK_old.lt k hk; omega))
    have ag := ag.keepG aU am
    have hb := below_stepG hb aU hb.size (fun k hk => (hK_old.lt k hk).1)
    have a0 : Dj FR aV := Dj.stepF aW (fun k hk => (aY k hk).2) hdj.symm
    refine ke_end rfl zz rfl ag ?_
    intro a5 a1 _ a3 a2 a6 a4 o_ ho_; obtain rfl := zE ho_
    obtain ⟨hb, _⟩ := yE hb a1
    have hls := all9 hls fun _ h => h.keep0 a1
    have hrs := all9 hrs fun _ h => h.keep0 a1
    have hQ := (hQ.keepG aU hdj.symm).kz a1
    have hLi := (hLi.keepG aU (fun k hk => .inr (by have := hK_old.lt k hk; omega))).keep0 a1
    have ag := ag.keep0 a1
    have aT := aT.kz a1
    have aK : Sl a3 84 (ptr F 0) := (a4 8 _ 84 zy rfl rfl).2 rfl
    have aL : Sl a3 86 (.int .i64 (opN (L.getD i dOp))) := (a4 10 _ 86 zy rfl rfl).2 rfl
    have aM : Sl a3 88 (opLv (L.getD i dOp)) := (a4 12 _ 88 zy rfl rfl).2 rfl
    have aN : Sl a3 90 (.int .u64 ((opS (L.getD i dOp)).toNat : Int)) := (a4 14 _ 90 zy rfl rfl).2 rfl
    refine zj ok63 (EnterQ (n := (opN (L.getD i dOp))) (s := ((opS (L.getD i dOp)).toNat : Int)) (l := (opL (L.getD i dOp))) zx (hMi.ok zx) (hLi.mono (Nat.zero_le _) zx) (by first | decide | omega) hQ) ⟨(zC a2 rfl aK), ⟨(zC a2 rfl aL), ⟨(zC a2 rfl aM), ⟨(zC a2 rfl aN), trivial⟩⟩⟩⟩ ?_
    rintro _ aO ⟨aK, rfl, aM, aL, aN⟩
    have aO := ag.lt
    have aO := aT.lt
    have hQ_old := hQ
    have := aK.size
    have hls := all9 hls fun _ h => h.keepG aK (fun k hk => .inr (by have := hQ_old.lt k hk; omega))
    have hrs := all9 hrs fun _ h => h.keepG aK (fun k hk => .inr (by have := hQ_old.lt k hk; omega))
    have ag := ag.keepG aK an
    have hb := below_stepG hb aK hb.size (fun k hk => (hQ_old.lt k hk).1)
    have aP : Dj aV aM := Dj.stepF aN (fun k hk => (aO k hk).2) a0.symm
    refine ke_end rfl zz rfl ag ?_
    intro aX aO aS aN aR aQ aW
    have aR := aR.trans ((by simp only [putsL_defers] : _ = _).trans T)
    obtain ⟨hb, _⟩ := yE hb aO
    have hr := ((((hr.keep0 aJ).keepG aU (fun k hk => .inr (by have := hK_old.lt k hk; omega))).keep0 a1).keepG aK (fun k hk => .inr (by have := hQ_old.lt k hk; omega))).keep0 aO
    have hls := all9 hls fun _ h => h.keep0 aO
    have hrs := all9 hrs fun _ h => h.keep0 aO
    have ag := ag.keep0 aO
    have aT := (aT.keepG aK a0.symm).kz aO
    have aL := aL.kz aO
    have aJ := (aQ 0 rfl).trans (zL Q rfl U)
    have aK := (aQ 3 rfl).trans (zL Q rfl R)
    have aO := (aQ 4 rfl).trans (zL Q rfl S)
    have aU := (aQ 5 rfl).trans (zL Q rfl V)
    have aX := (aQ 6 rfl).trans (zU Q rfl)
    have aQ : Sl aS 83 (.int .i64 (enterE M (opN (L.getD i dOp)))) := (zE ((aW 7 _ 83 rfl rfl).1 0 rfl)).symm
    have aY : Sl aS 91 (.int .i64 (enterE M (opN (L.getD i dOp)))) := (zE ((aW 15 _ 91 rfl rfl).1 1 rfl)).symm
    refine split_end (from_seq (tl := [_]) zz zy rfl (op_neq (zC aN rfl aQ) (zC aN rfl aY) (fun aS => ?_) (fun aS => ?_)))
    ·
     exact absurd rfl aS
    refine zB (J3 _ _ (wp_cond_false (zA aN rfl) (wp_skip (Z _ _ (zF fun _ Z => zH (zG (zC aN rfl aK) (zG (zC aN rfl aO) (zM fld103_1 (zC aN rfl aX) (zN one3 (zA aN rfl) (ag.cell rfl) ?_)))))))))
    have hMn : MIn (enterM M (opN (L.getD i dOp)) (opL (L.getD i dOp)) ((opS (L.getD i dOp)).toNat : Int)) (i + 1) := hMi.enter hnw zx
    refine zj ok69 (SameQ zx zx (hMn.ok zx) (hMn.sm zx) aT aL) ⟨(zA aN rfl), ⟨(zA aN rfl), ⟨(zA aN rfl), trivial⟩⟩⟩ ?_
    rintro _ aW ⟨aQ, rfl⟩
    have aQ := zQ aQ
    obtain ⟨hb, _⟩ := yE hb aQ
    have hr := hr.keep0 aQ
    have hls := all9 hls fun _ h => h.keep0 aQ
    have hrs := all9 hrs fun _ h => h.keep0 aQ
    have aT := aT.kz aQ
    have aL := aL.kz aQ
    refine op_not (zA aN rfl) (zB (Z _ _ (wp_cond_false (zA aN rfl) (wp_skip (g _ _ (zH (zG (zC aN rfl aU) (op_add (zA aN rfl) rfl (add64 zx) (zD (zA aN rfl) (zB ?_))))))))))
    -- round 21F 28T 36T 74T 92F
    exact zg _ aN aR ⟨(i + 1), enterM M (opN (L.getD i dOp)) (opL (L.getD i dOp)) ((opS (L.getD i dOp)).toNat : Int), kk, aV, aM, rfl, (zL aN rfl aJ), (zL aN rfl aO), (zU aN rfl).trans (congrArg (Value.int .i64) zx), (zL aN rfl aK), zx, hMn, aP, hb, zx, hr, hls, hrs, aT, (aL.grow zx)⟩ zx
   refine zD (zA Q rfl) (zB (J4 _ _ (wp_cond_false (zA Q rfl) (zH (op_eql (zA Q rfl) rfl (fun aJ => ?_) (fun aJ => ?_))))))
   ·
    refine zD (zA Q rfl) (zB (J3 _ _ (wp_cond_true (zA Q rfl) (zF fun _ J3 => reg_split (hd := [_, _, _, _, _, _, _, _, _, _, _, _, _, _, _, _]) (tl := _) 16 mixed zy rfl rfl (any_env (φ := phiV [(fun uz => uz = (ptr kk 0)), (fun uz => uz = (ptr ah 1)), (fun uz => uz = (.int .i64 (opN (L.getD i dOp)))), (fun uz => uz = (ptr ah 2)), (fun uz => uz = (opLv (L.getD i dOp))), (fun uz => uz = (ptr ah 3)), (fun uz => uz = (.int .u64 ((opS (L.getD i dOp)).toNat : Int))), (fun _ => True), (fun uz => uz = (ptr F 0)), (fun uz => uz = (ptr ah 1)), (fun uz => uz = (.int .i64 (opN (L.getD i dOp)))), (fun uz => uz = (ptr ah 2)), (fun uz => uz = (opLv (L.getD i dOp))), (fun uz => uz = (ptr ah 3)), (fun uz => uz = (.int .u64 ((opS (L.getD i dOp)).toNat : Int))), (fun _ => True)]) (G := fun w' => Bx w' ah 103 [(.int .i64 (opK (L.getD i dOp))), (.int .i64 (opN (L.getD i dOp))), (opLv (L.getD i dOp)), (.int .u64 ((opS (L.getD i dOp)).toNat : Int)), (opRv (L.getD i dOp)), (.string (bs (opW (L.getD i dOp))))]) [7, 15] zy zy zy zy Q (fun p w2 E h => h.keep0 E) ag (ObEs.cons ?_ (ObEs.cons ?_ (ObEs.cons ?_ (ObEs.cons ?_ (ObEs.cons ?_ (ObEs.cons ?_ (ObEs.cons ?_ (ObEs.pass rfl (ObEs.cons ?_ (ObEs.cons ?_ (ObEs.cons ?_ (ObEs.cons ?_ (ObEs.cons ?_ (ObEs.cons ?_ (ObEs.cons ?_ (ObEs.pass rfl (ObEs.nil))))))))))))))))) (by simp only [putsL_defers]) ?_)))))
    ·
     intro eA aA wA hNA hGA hbsA hdpA
     have az := (hbsA 3 rfl).trans (zL Q rfl R)
     refine zG (zC hNA rfl az) ?_
     exact obE_end rfl rfl rfl
    ·
     intro eA aA wA hNA hGA hbsA hdpA
     have aB := (hbsA 6 rfl).trans (zU Q rfl)
     refine zM fld103_1 (zC hNA rfl aB) ?_
     exact obE_end rfl rfl rfl
    ·
     intro eA aA wA hNA hGA hbsA hdpA
     have aC : Sl aA 77 (ptr ah 1) := (hdpA 1 _ 77 zy rfl rfl).2 rfl
     refine zN one3 (zC hNA rfl aC) (hGA.cell rfl) ?_
     exact obE_end rfl rfl rfl
    ·
     intro eA aA wA hNA hGA hbsA hdpA
     have aB := (hbsA 6 rfl).trans (zU Q rfl)
     refine zM fld103_2 (zC hNA rfl aB) ?_
     exact obE_end rfl rfl rfl
    ·
     intro eA aA wA hNA hGA hbsA hdpA
     have aD : Sl aA 79 (ptr ah 2) := (hdpA 3 _ 79 zy rfl rfl).2 rfl
     refine zN one54 (zC hNA rfl aD) (hGA.cell rfl) ?_
     exact obE_end rfl rfl rfl
    ·
     intro eA aA wA hNA hGA hbsA hdpA
     have aB := (hbsA 6 rfl).trans (zU Q rfl)
     refine zM fld103_3 (zC hNA rfl aB) ?_
     exact obE_end rfl rfl rfl
    ·
     intro eA aA wA hNA hGA hbsA hdpA
     have aE : Sl aA 81 (ptr ah 3) := (hdpA 5 _ 81 zy rfl rfl).2 rfl
     refine zN one61 (zC hNA rfl aE) (hGA.cell rfl) ?_
     exact obE_end rfl rfl rfl
    ·
     intro eA aA wA hNA hGA hbsA hdpA
     have aF := (hbsA 4 rfl).trans (zL Q rfl S)
     refine zG (zC hNA rfl aF) ?_
     exact obE_end rfl rfl rfl
    ·
     intro eA aA wA hNA hGA hbsA hdpA
     have aB := (hbsA 6 rfl).trans (zU Q rfl)
     refine zM fld103_1 (zC hNA rfl aB) ?_
     exact obE_end rfl rfl rfl
    ·
     intro eA aA wA hNA hGA hbsA hdpA
     have aG : Sl aA 85 (ptr ah 1) := (hdpA 9 _ 85 zy rfl rfl).2 rfl
     refine zN one3 (zC hNA rfl aG) (hGA.cell rfl) ?_
     exact obE_end rfl rfl rfl
    ·
     intro eA aA wA hNA hGA hbsA hdpA
     have aB := (hbsA 6 rfl).trans (zU Q rfl)
     refine zM fld103_2 (zC hNA rfl aB) ?_
     exact obE_end rfl rfl rfl
    ·
     intro eA aA wA hNA hGA hbsA hdpA
     have aH : Sl aA 87 (ptr ah 2) := (hdpA 11 _ 87 zy rfl rfl).2 rfl
     refine zN one54 (zC hNA rfl aH) (hGA.cell rfl) ?_
     exact obE_end rfl rfl rfl
    ·
     intro eA aA wA hNA hGA hbsA hdpA
     have aB := (hbsA 6 rfl).trans (zU Q rfl)
     refine zM fld103_3 (zC hNA rfl aB) ?_
     exact obE_end rfl rfl rfl
    ·
     intro eA aA wA hNA hGA hbsA hdpA
     have aI : Sl aA 89 (ptr ah 3) := (hdpA 13 _ 89 zy rfl rfl).2 rfl
     refine zN one61 (zC hNA rfl aI) (hGA.cell rfl) ?_
     exact obE_end rfl rfl rfl
    intro aI aC _ aG aD aH aE o_ ho_; obtain rfl := zE ho_
    obtain ⟨hb, _⟩ := yE hb aC
    have hls := all9 hls fun _ h => h.keep0 aC
    have hrs := all9 hrs fun _ h => h.keep0 aC
    have hK := hK.kz aC
    have hQ := hQ.kz aC
    have hLi := hLi.keep0 aC
    have ag := ag.keep0 aC
    have aK : Sl aG 76 (ptr kk 0) := (aE 0 _ 76 zy rfl rfl).2 rfl
    have aL : Sl aG 78 (.int .i64 (opN (L.getD i dOp))) := (aE 2 _ 78 zy rfl rfl).2 rfl
    have aM : Sl aG 80 (opLv (L.getD i dOp)) := (aE 4 _ 80 zy rfl rfl).2 rfl
    have aN : Sl aG 82 (.int .u64 ((opS (L.getD i dOp)).toNat : Int)) := (aE 6 _ 82 zy rfl rfl).2 rfl
    refine zj ok54 (EnterR (n := (opN (L.getD i dOp))) (s := ((opS (L.getD i dOp)).toNat : Int)) (l := (opL (L.getD i dOp))) zx (lo := w.heap.size) hLi zx (by first | decide | omega) hK) ⟨(zC aD rfl aK), ⟨(zC aD rfl aL), ⟨(zC aD rfl aM), ⟨(zC aD rfl aN), trivial⟩⟩⟩⟩ ?_
    rintro _ aT ⟨aP, rfl, aQ, aO, aR⟩
    have aU := hQ.lt
    have aV := ag.lt
    have hK_old := hK
    have := aP.size
    have hls := all9 hls fun _ h => h.keepG aP (fun k hk => .inr (by have := hK_old.lt k hk; omega))
    have hrs := all9 hrs fun _ h => h.keepG aP (fun k hk => .inr (by have := hK_old.lt k hk; omega))
    have ag := ag.keepG aP am
    have hb := below_stepG hb aP hb.size (fun k hk => (hK_old.lt k hk).1)
    have aW : Dj FR aQ := Dj.stepF aR (fun k hk => (aU k hk).2) hdj.symm
    refine ke_end rfl zz rfl ag ?_
    intro a2 aX _ aY aZ a1 a0 o_ ho_; obtain rfl := zE ho_
    obtain ⟨hb, _⟩ := yE hb aX
    have hls := all9 hls fun _ h => h.keep0 aX
    have hrs := all9 hrs fun _ h => h.keep0 aX
    have hQ := (hQ.keepG aP hdj.symm).kz aX
    have hLi := (hLi.keepG aP (fun k hk => .inr (by have := hK_old.lt k hk; omega))).keep0 aX
    have ag := ag.keep0 aX
    have aO := aO.kz aX
    have aD : Sl aY 84 (ptr F 0) := (a0 8 _ 84 zy rfl rfl).2 rfl
    have aE : Sl aY 86 (.int .i64 (opN (L.getD i dOp))) := (a0 10 _ 86 zy rfl rfl).2 rfl
    have aG : Sl aY 88 (opLv (L.getD i dOp)) := (a0 12 _ 88 zy rfl rfl).2 rfl
    have aH : Sl aY 90 (.int .u64 ((opS (L.getD i dOp)).toNat : Int)) := (a0 14 _ 90 zy rfl rfl).2 rfl
    refine zj ok63 (EnterQ (n := (opN (L.getD i dOp))) (s := ((opS (L.getD i dOp)).toNat : Int)) (l := (opL (L.getD i dOp))) zx (hMi.ok zx) (hLi.mono (Nat.zero_le _) zx) (by first | decide | omega) hQ) ⟨(zC aZ rfl aD), ⟨(zC aZ rfl aE), ⟨(zC aZ rfl aG), ⟨(zC aZ rfl aH), trivial⟩⟩⟩⟩ ?_
    rintro _ aI ⟨aD, rfl, aG, aE, aH⟩
    have aI := ag.lt
    have aI := aO.lt
    have hQ_old := hQ
    have := aD.size
    have hls := all9 hls fun _ h => h.keepG aD (fun k hk => .inr (by have := hQ_old.lt k hk; omega))
    have hrs := all9 hrs fun _ h => h.keepG aD (fun k hk => .inr (by have := hQ_old.lt k hk; omega))
    have ag := ag.keepG aD an
    have hb := below_stepG hb aD hb.size (fun k hk => (hQ_old.lt k hk).1)
    have aK : Dj aQ aG := Dj.stepF aH (fun k hk => (aI k hk).2) aW.symm
    refine ke_end rfl zz rfl ag ?_
    intro aT aI aR aH aM aL aN
    have aM := aM.trans ((by simp only [putsL_defers] : _ = _).trans T)
    obtain ⟨hb, _⟩ := yE hb aI
    have hr := ((((hr.keep0 aC).keepG aP (fun k hk => .inr (by have := hK_old.lt k hk; omega))).keep0 aX).keepG aD (fun k hk => .inr (by have := hQ_old.lt k hk; omega))).keep0 aI
    have hls := all9 hls fun _ h => h.keep0 aI
    have hrs := all9 hrs fun _ h => h.keep0 aI
    have ag := ag.keep0 aI
    have aO := (aO.keepG aD aW.symm).kz aI
    have aE := aE.kz aI
    have aC := (aL 0 rfl).trans (zL Q rfl U)
    have aD := (aL 3 rfl).trans (zL Q rfl R)
    have aI := (aL 4 rfl).trans (zL Q rfl S)
    have aP := (aL 5 rfl).trans (zL Q rfl V)
    have aT := (aL 6 rfl).trans (zU Q rfl)
    have aL : Sl aR 83 (.int .i64 (enterE M (opN (L.getD i dOp)))) := (zE ((aN 7 _ 83 rfl rfl).1 0 rfl)).symm
    have aU : Sl aR 91 (.int .i64 (enterE M (opN (L.getD i dOp)))) := (zE ((aN 15 _ 91 rfl rfl).1 1 rfl)).symm
    refine split_end (from_seq (tl := [_]) zz zy rfl (op_neq (zC aH rfl aL) (zC aH rfl aU) (fun aS => ?_) (fun aS => ?_)))
    ·
     exact absurd rfl aS
    refine zB (J3 _ _ (wp_cond_false (zA aH rfl) (wp_skip (Z _ _ (zF fun _ Z => zH (zG (zC aH rfl aD) (zG (zC aH rfl aI) (zM fld103_1 (zC aH rfl aT) (zN one3 (zA aH rfl) (ag.cell rfl) ?_)))))))))
    have hMn : MIn (enterM M (opN (L.getD i dOp)) (opL (L.getD i dOp)) ((opS (L.getD i dOp)).toNat : Int)) (i + 1) := hMi.enter hnw zx
    refine zj ok69 (SameQ zx zx (hMn.ok zx) (hMn.sm zx) aO aE) ⟨(zA aH rfl), ⟨(zA aH rfl), ⟨(zA aH rfl), trivial⟩⟩⟩ ?_
    rintro _ aN ⟨aL, rfl⟩
    have aL := zQ aL
    obtain ⟨hb, _⟩ := yE hb aL
    have hr := hr.keep0 aL
    have hls := all9 hls fun _ h => h.keep0 aL
    have hrs := all9 hrs fun _ h => h.keep0 aL
    have aO := aO.kz aL
    have aE := aE.kz aL
    refine op_not (zA aH rfl) (zB (Z _ _ (wp_cond_false (zA aH rfl) (wp_skip (g _ _ (zH (zG (zC aH rfl aP) (op_add (zA aH rfl) rfl (add64 zx) (zD (zA aH rfl) (zB ?_))))))))))
    -- round 21F 28T 36T 74F 75T 92F
    exact zg _ aH aM ⟨(i + 1), enterM M (opN (L.getD i dOp)) (opL (L.getD i dOp)) ((opS (L.getD i dOp)).toNat : Int), kk, aQ, aG, rfl, (zL aH rfl aC), (zL aH rfl aI), (zU aH rfl).trans (congrArg (Value.int .i64) zx), (zL aH rfl aD), zx, hMn, aK, hb, zx, hr, hls, hrs, aO, (aE.grow zx)⟩ zx
   refine zD (zA Q rfl) (zB (J3 _ _ (wp_cond_false (zA Q rfl) (zF fun _ J3 => zH (op_eql (zA Q rfl) rfl (fun aC => ?_) (fun aC => ?_))))))
   ·
    refine zD (zA Q rfl) (zB (J3 _ _ (wp_cond_true (zA Q rfl) (zF fun _ J3 => reg_split (hd := [_, _, _, _, _, _, _, _, _, _, _, _, _, _, _, _]) (tl := _) 16 mixed zy rfl rfl (any_env (φ := phiV [(fun uz => uz = (ptr kk 0)), (fun uz => uz = (ptr ah 1)), (fun uz => uz = (.int .i64 (opN (L.getD i dOp)))), (fun uz => uz = (ptr ah 2)), (fun uz => uz = (opLv (L.getD i dOp))), (fun uz => uz = (ptr ah 3)), (fun uz => uz = (.int .u64 ((opS (L.getD i dOp)).toNat : Int))), (fun _ => True), (fun uz => uz = (ptr F 0)), (fun uz => uz = (ptr ah 1)), (fun uz => uz = (.int .i64 (opN (L.getD i dOp)))), (fun uz => uz = (ptr ah 2)), (fun uz => uz = (opLv (L.getD i dOp))), (fun uz => uz = (ptr ah 3)), (fun uz => uz = (.int .u64 ((opS (L.getD i dOp)).toNat : Int))), (fun _ => True)]) (G := fun w' => Bx w' ah 103 [(.int .i64 (opK (L.getD i dOp))), (.int .i64 (opN (L.getD i dOp))), (opLv (L.getD i dOp)), (.int .u64 ((opS (L.getD i dOp)).toNat : Int)), (opRv (L.getD i dOp)), (.string (bs (opW (L.getD i dOp))))]) [7, 15] zy zy zy zy Q (fun p w2 E h => h.keep0 E) ag (ObEs.cons ?_ (ObEs.cons ?_ (ObEs.cons ?_ (ObEs.cons ?_ (ObEs.cons ?_ (ObEs.cons ?_ (ObEs.cons ?_ (ObEs.pass rfl (ObEs.cons ?_ (ObEs.cons ?_ (ObEs.cons ?_ (ObEs.cons ?_ (ObEs.cons ?_ (ObEs.cons ?_ (ObEs.cons ?_ (ObEs.pass rfl (ObEs.nil))))))))))))))))) (by simp only [putsL_defers]) ?_)))))
    ·
     intro eA aA wA hNA hGA hbsA hdpA
     have az := (hbsA 3 rfl).trans (zL Q rfl R)
     refine zG (zC hNA rfl az) ?_
     exact obE_end rfl rfl rfl
    ·
     intro eA aA wA hNA hGA hbsA hdpA
     have aB := (hbsA 6 rfl).trans (zU Q rfl)
     refine zM fld103_1 (zC hNA rfl aB) ?_
     exact obE_end rfl rfl rfl
    ·
     intro eA aA wA hNA hGA hbsA hdpA
     have aD : Sl aA 96 (ptr ah 1) := (hdpA 1 _ 96 zy rfl rfl).2 rfl
     refine zN one3 (zC hNA rfl aD) (hGA.cell rfl) ?_
     exact obE_end rfl rfl rfl
    ·
     intro eA aA wA hNA hGA hbsA hdpA
     have aB := (hbsA 6 rfl).trans (zU Q rfl)
     refine zM fld103_2 (zC hNA rfl aB) ?_
     exact obE_end rfl rfl rfl
    ·
     intro eA aA wA hNA hGA hbsA hdpA
     have aD : Sl aA 98 (ptr ah 2) := (hdpA 3 _ 98 zy rfl rfl).2 rfl
     refine zN one54 (zC hNA rfl aD) (hGA.cell rfl) ?_
     exact obE_end rfl rfl rfl
    ·
     intro eA aA wA hNA hGA hbsA hdpA
     have aB := (hbsA 6 rfl).trans (zU Q rfl)
     refine zM fld103_3 (zC hNA rfl aB) ?_
     exact obE_end rfl rfl rfl
    ·
     intro eA aA wA hNA hGA hbsA hdpA
     have aD : Sl aA 100 (ptr ah 3) := (hdpA 5 _ 100 zy rfl rfl).2 rfl
     refine zN one61 (zC hNA rfl aD) (hGA.cell rfl) ?_
     exact obE_end rfl rfl rfl
    ·
     intro eA aA wA hNA hGA hbsA hdpA
     have aF := (hbsA 4 rfl).trans (zL Q rfl S)
     refine zG (zC hNA rfl aF) ?_
     exact obE_end rfl rfl rfl
    ·
     intro eA aA wA hNA hGA hbsA hdpA
     have aB := (hbsA 6 rfl).trans (zU Q rfl)
     refine zM fld103_1 (zC hNA rfl aB) ?_
     exact obE_end rfl rfl rfl
    ·
     intro eA aA wA hNA hGA hbsA hdpA
     have aD : Sl aA 104 (ptr ah 1) := (hdpA 9 _ 104 zy rfl rfl).2 rfl
     refine zN one3 (zC hNA rfl aD) (hGA.cell rfl) ?_
     exact obE_end rfl rfl rfl
    ·
     intro eA aA wA hNA hGA hbsA hdpA
     have aB := (hbsA 6 rfl).trans (zU Q rfl)
     refine zM fld103_2 (zC hNA rfl aB) ?_
     exact obE_end rfl rfl rfl
    ·
     intro eA aA wA hNA hGA hbsA hdpA
     have aD : Sl aA 106 (ptr ah 2) := (hdpA 11 _ 106 zy rfl rfl).2 rfl
     refine zN one54 (zC hNA rfl aD) (hGA.cell rfl) ?_
     exact obE_end rfl rfl rfl
    ·
     intro eA aA wA hNA hGA hbsA hdpA
     have aB := (hbsA 6 rfl).trans (zU Q rfl)
     refine zM fld103_3 (zC hNA rfl aB) ?_
     exact obE_end rfl rfl rfl
    ·
     intro eA aA wA hNA hGA hbsA hdpA
     have aD : Sl aA 108 (ptr ah 3) := (hdpA 13 _ 108 zy rfl rfl).2 rfl
     refine zN one61 (zC hNA rfl aD) (hGA.cell rfl) ?_
     exact obE_end rfl rfl rfl
    intro aI aD _ aG aE aK aH o_ ho_; obtain rfl := zE ho_
    obtain ⟨hb, _⟩ := yE hb aD
    have hls := all9 hls fun _ h => h.keep0 aD
    have hrs := all9 hrs fun _ h => h.keep0 aD
    have hK := hK.kz aD
    have hQ := hQ.kz aD
    have hLi := hLi.keep0 aD
    have ag := ag.keep0 aD
    have aL : Sl aG 95 (ptr kk 0) := (aH 0 _ 95 zy rfl rfl).2 rfl
    have aM : Sl aG 97 (.int .i64 (opN (L.getD i dOp))) := (aH 2 _ 97 zy rfl rfl).2 rfl
    have aN : Sl aG 99 (opLv (L.getD i dOp)) := (aH 4 _ 99 zy rfl rfl).2 rfl
    have aO : Sl aG 101 (.int .u64 ((opS (L.getD i dOp)).toNat : Int)) := (aH 6 _ 101 zy rfl rfl).2 rfl
    refine zj ok59 (MoveR (n := (opN (L.getD i dOp))) (s := ((opS (L.getD i dOp)).toNat : Int)) (l := (opL (L.getD i dOp))) zx (hLi.mono (Nat.zero_le _) zx) (by first | decide | omega) hK) ⟨(zC aE rfl aL), ⟨(zC aE rfl aM), ⟨(zC aE rfl aN), ⟨(zC aE rfl aO), trivial⟩⟩⟩⟩ ?_
    rintro _ aT ⟨aQ, rfl, aR, aP, aS⟩
    have aU := hQ.lt
    have aV := ag.lt
    have hK_old := hK
    have := aQ.size
    have hls := all9 hls fun _ h => h.keepG aQ (fun k hk => .inr (by have := hK_old.lt k hk; omega))
    have hrs := all9 hrs fun _ h => h.keepG aQ (fun k hk => .inr (by have := hK_old.lt k hk; omega))
    have ag := ag.keepG aQ am
    have hb := below_stepG hb aQ hb.size (fun k hk => (hK_old.lt k hk).1)
    have aW : Dj FR aR := Dj.stepF aS (fun k hk => (aU k hk).2) hdj.symm
    refine ke_end rfl zz rfl ag ?_
    intro a2 aX _ aY aZ a1 a0 o_ ho_; obtain rfl := zE ho_
    obtain ⟨hb, _⟩ := yE hb aX
    have hls := all9 hls fun _ h => h.keep0 aX
    have hrs := all9 hrs fun _ h => h.keep0 aX
    have hQ := (hQ.keepG aQ hdj.symm).kz aX
    have hLi := (hLi.keepG aQ (fun k hk => .inr (by have := hK_old.lt k hk; omega))).keep0 aX
    have ag := ag.keep0 aX
    have aP := aP.kz aX
    have aE : Sl aY 103 (ptr F 0) := (a0 8 _ 103 zy rfl rfl).2 rfl
    have aG : Sl aY 105 (.int .i64 (opN (L.getD i dOp))) := (a0 10 _ 105 zy rfl rfl).2 rfl
    have aH : Sl aY 107 (opLv (L.getD i dOp)) := (a0 12 _ 107 zy rfl rfl).2 rfl
    have aI : Sl aY 109 (.int .u64 ((opS (L.getD i dOp)).toNat : Int)) := (a0 14 _ 109 zy rfl rfl).2 rfl
    refine zj ok64 (MoveQ (n := (opN (L.getD i dOp))) (s := ((opS (L.getD i dOp)).toNat : Int)) (l := (opL (L.getD i dOp))) zx (hMi.ok zx) (hLi.mono (Nat.zero_le _) zx) (by first | decide | omega) hQ) ⟨(zC aZ rfl aE), ⟨(zC aZ rfl aG), ⟨(zC aZ rfl aH), ⟨(zC aZ rfl aI), trivial⟩⟩⟩⟩ ?_
    rintro _ aK ⟨aE, rfl, aH, aG, aI⟩
    have aK := ag.lt
    have aK := aP.lt
    have hQ_old := hQ
    have := aE.size
    have hls := all9 hls fun _ h => h.keepG aE (fun k hk => .inr (by have := hQ_old.lt k hk; omega))
    have hrs := all9 hrs fun _ h => h.keepG aE (fun k hk => .inr (by have := hQ_old.lt k hk; omega))
    have ag := ag.keepG aE an
    have hb := below_stepG hb aE hb.size (fun k hk => (hQ_old.lt k hk).1)
    have aL : Dj aR aH := Dj.stepF aI (fun k hk => (aK k hk).2) aW.symm
    refine ke_end rfl zz rfl ag ?_
    intro aT aK aO aI aN aM aS
    have aN := aN.trans ((by simp only [putsL_defers] : _ = _).trans T)
    obtain ⟨hb, _⟩ := yE hb aK
    have hr := ((((hr.keep0 aD).keepG aQ (fun k hk => .inr (by have := hK_old.lt k hk; omega))).keep0 aX).keepG aE (fun k hk => .inr (by have := hQ_old.lt k hk; omega))).keep0 aK
    have hls := all9 hls fun _ h => h.keep0 aK
    have hrs := all9 hrs fun _ h => h.keep0 aK
    have ag := ag.keep0 aK
    have aP := (aP.keepG aE aW.symm).kz aK
    have aG := aG.kz aK
    have aD := (aM 0 rfl).trans (zL Q rfl U)
    have aE := (aM 3 rfl).trans (zL Q rfl R)
    have aK := (aM 4 rfl).trans (zL Q rfl S)
    have aQ := (aM 5 rfl).trans (zL Q rfl V)
    have aT := (aM 6 rfl).trans (zU Q rfl)
    have aM : Sl aO 102 (.int .i64 (moveE M (opN (L.getD i dOp)))) := (zE ((aS 7 _ 102 rfl rfl).1 0 rfl)).symm
    have aU : Sl aO 110 (.int .i64 (moveE M (opN (L.getD i dOp)))) := (zE ((aS 15 _ 110 rfl rfl).1 1 rfl)).symm
    refine split_end (from_seq (tl := [_]) zz zy rfl (op_neq (zC aI rfl aM) (zC aI rfl aU) (fun aO => ?_) (fun aO => ?_)))
    ·
     exact absurd rfl aO
    refine zB (J3 _ _ (wp_cond_false (zA aI rfl) (wp_skip (Z _ _ (zF fun _ Z => zH (zG (zC aI rfl aE) (zG (zC aI rfl aK) (zM fld103_1 (zC aI rfl aT) (zN one3 (zA aI rfl) (ag.cell rfl) ?_)))))))))
    have hMn : MIn (moveM M (opN (L.getD i dOp)) (opL (L.getD i dOp)) ((opS (L.getD i dOp)).toNat : Int)) (i + 1) := hMi.move zx
    refine zj ok69 (SameQ zx zx (hMn.ok zx) (hMn.sm zx) aP aG) ⟨(zA aI rfl), ⟨(zA aI rfl), ⟨(zA aI rfl), trivial⟩⟩⟩ ?_
    rintro _ aO ⟨aM, rfl⟩
    have aM := zQ aM
    obtain ⟨hb, _⟩ := yE hb aM
    have hr := hr.keep0 aM
    have hls := all9 hls fun _ h => h.keep0 aM
    have hrs := all9 hrs fun _ h => h.keep0 aM
    have aP := aP.kz aM
    have aG := aG.kz aM
    refine op_not (zA aI rfl) (zB (Z _ _ (wp_cond_false (zA aI rfl) (wp_skip (g _ _ (zH (zG (zC aI rfl aQ) (op_add (zA aI rfl) rfl (add64 zx) (zD (zA aI rfl) (zB ?_))))))))))
    -- round 21F 28T 36T 74F 75F 94T 111F
    exact zg _ aI aN ⟨(i + 1), moveM M (opN (L.getD i dOp)) (opL (L.getD i dOp)) ((opS (L.getD i dOp)).toNat : Int), kk, aR, aH, rfl, (zL aI rfl aD), (zL aI rfl aK), (zU aI rfl).trans (congrArg (Value.int .i64) zx), (zL aI rfl aE), zx, hMn, aL, hb, zx, hr, hls, hrs, aP, (aG.grow zx)⟩ zx
   refine zD (zA Q rfl) (zB (J3 _ _ (wp_cond_false (zA Q rfl) (zF fun _ J3 => zH (op_eql (zA Q rfl) rfl (fun aD => ?_) (fun aD => ?_))))))
   ·
    refine zD (zA Q rfl) (zB ?_)
    refine J3 _ _ (wp_cond_true (zA Q rfl) (zF fun _ J3 => zH (zG (zC Q rfl R) (zM fld103_1 (zA Q rfl) (zN one3 (zA Q rfl) (ag.cell rfl) (zj ok60 (CommitR (n := (opN (L.getD i dOp))) zx (hMi.ok zx) hK) ⟨(zA Q rfl), ⟨(zA Q rfl), trivial⟩⟩ ?_))))))
    rintro _ aM ⟨aH, aK, rfl, aE, aI, aG, aL, aN⟩
    have aM := hQ.lt
    have aN := ag.lt
    have aN : Dj FR (Bl aK) := Dj.fresh (fun k hk => (aM k hk).2) (fun k hk => (aE.lt k hk).1)
    have hK_old := hK
    have := aH.size
    have hls := all9 hls fun _ h => h.keepG aH (fun k hk => .inr (by have := hK_old.lt k hk; omega))
    have hrs := all9 hrs fun _ h => h.keepG aH (fun k hk => .inr (by have := hK_old.lt k hk; omega))
    have hQ := hQ.keepG aH hdj.symm
    have ag := ag.keepG aH am
    have hb := below_stepG hb aH hb.size (fun k hk => (hK_old.lt k hk).1)
    have aO : Dj FR aI := Dj.stepF aL (fun k hk => (aM k hk).2) hdj.symm
    have aE := aE.mono (base' := w.heap.size) zx
    refine zG (zA Q rfl) (zW (zA Q rfl) rfl (zW (zA Q rfl) rfl (zD (zA Q rfl) (zD (zA Q rfl) (zB ?_)))))
    refine J3 _ _ (zF fun _ J3 => zH (zG (zC Q rfl S) (zM fld103_1 (zA Q rfl) (zN one3 (zA Q rfl) (ag.cell rfl) (zj ok65 (ComQ (n := (opN (L.getD i dOp))) zx (hMi.ok zx) (hMi.sm zx) hQ) ⟨(zA Q rfl), ⟨(zA Q rfl), trivial⟩⟩ ?_)))))
    rintro _ aS ⟨aM, aR, rfl, aL, aQ, aP, aT, aU⟩
    have aU := ag.lt
    have aU := aG.lt
    have aV := aE.lt
    have hQ_old := hQ
    have := aM.size
    have hr := (hr.keepG aH (fun k hk => .inr (by have := hK_old.lt k hk; omega))).keepG aM (fun k hk => .inr (by have := hQ_old.lt k hk; omega))
    have hls := all9 hls fun _ h => h.keepG aM (fun k hk => .inr (by have := hQ_old.lt k hk; omega))
    have hrs := all9 hrs fun _ h => h.keepG aM (fun k hk => .inr (by have := hQ_old.lt k hk; omega))
    have hLi := (hLi.keepG aH (fun k hk => .inr (by have := hK_old.lt k hk; omega))).keepG aM (fun k hk => .inr (by have := hQ_old.lt k hk; omega))
    have hRi := (hRi.keepG aH (fun k hk => .inr (by have := hK_old.lt k hk; omega))).keepG aM (fun k hk => .inr (by have := hQ_old.lt k hk; omega))
    have ag := ag.keepG aM an
    have aG := aG.keepG aM aO.symm
    have aE := aE.keepG aM aN.symm
    have hb := below_stepG hb aM hb.size (fun k hk => (hQ_old.lt k hk).1)
    have aH : Dj aI aQ := Dj.stepF aT (fun k hk => (aU k hk).2) aO.symm
    have aL := aL.mono (base' := w.heap.size) zx
    refine zG (zA Q rfl) (zW (zA Q rfl) rfl ?_)
    refine zW (zA Q rfl) rfl (zD (zA Q rfl) (zD (zA Q rfl) (zB (J3 _ _ (zF fun _ J3 => zF fun _ J4 => zH (zG (zA Q rfl) (zG (zA Q rfl) (op_neq (zA Q rfl) (zA Q rfl) (fun aM => ?_) (fun aM => ?_)))))))))
    ·
     exact absurd rfl aM
    refine zG (zA Q rfl) ?_
    refine zS (j := 3) (dj := 131) (b := false) rfl rfl rfl (zA Q rfl) (zG (zA Q rfl) (zS (j := 3) (dj := 131) (b := false) rfl rfl rfl (zA Q rfl) (op_len_rd Try.underlying35 (zA Q rfl) aE.rdw (zS (j := 3) (dj := 131) (b := false) rfl rfl rfl (zA Q rfl) (zG (zA Q rfl) (zS (j := 3) (dj := 131) (b := false) rfl rfl rfl (zA Q rfl) (op_len_rd Try.underlying35 (zA Q rfl) aL.rdw (zS (j := 3) (dj := 131) (b := false) rfl rfl rfl (zA Q rfl) (op_neq (zA Q rfl) (zA Q rfl) (fun aM => ?_) (fun aM => ?_))))))))))
    ·
     exact absurd rfl aM
    refine zd (zA Q rfl) (zA Q rfl) (zB (J4 _ _ (wp_cond_false (zA Q rfl) (wp_skip (J3 _ _ (zF fun _ J3 => zH (zD rfl (zB (J3 _ _ (wp_block (loop_m (fun mz_ az_ w' => ∃ (j : Nat), mz_ = (comL M (opN (L.getD i dOp))).length - j ∧ (Sl az_ 0 vL) ∧ (Sl az_ 3 (ptr kk 0)) ∧ (Sl az_ 4 (ptr F 0)) ∧ (Sl az_ 5 (.int .i64 ((i : Nat) : Int))) ∧ (Sl az_ 6 (ptr ah 0)) ∧ (Sl az_ 7 aK) ∧ (Sl az_ 9 aR) ∧ (Sl az_ 11 (.int .i64 ((j : Nat) : Int))) ∧ (j ≤ (comL M (opN (L.getD i dOp))).length) ∧ (Below w.heap.size w w') ∧ (aS.heap.size ≤ w'.heap.size) ∧ (RdC w' 0 w.heap.size 6 vL L.length (L.flatMap cellsOp)) ∧ (∀ x9 ∈ (L.map opLab), RdC w' 0 w.heap.size 1 x9.1 x9.2.length (x9.2.map u16v)) ∧ (∀ x9 ∈ (L.map opRds), RdC w' 0 w.heap.size 1 x9.1 x9.2.length (x9.2.map sv)) ∧ (RdC w' 0 w.heap.size 1 (opLv (L.getD i dOp)) (opL (L.getD i dOp)).length ((opL (L.getD i dOp)).map u16v)) ∧ (RdC w' 0 w.heap.size 1 (opRv (L.getD i dOp)) (opR (L.getD i dOp)).length ((opR (L.getD i dOp)).map sv)) ∧ (Bx w' ah 103 [(.int .i64 (opK (L.getD i dOp))), (.int .i64 (opN (L.getD i dOp))), (opLv (L.getD i dOp)), (.int .u64 ((opS (L.getD i dOp)).toNat : Int)), (opRv (L.getD i dOp)), (.string (bs (opW (L.getD i dOp))))]) ∧ (LocksR w' w.heap.size kk (comM M (opN (L.getD i dOp))) aI) ∧ (Own w' w.heap.size 3 1 aK (comL M (opN (L.getD i dOp))).length ((comL M (opN (L.getD i dOp))).map (Value.int .i64))) ∧ (RfQ w' w.heap.size F (comM M (opN (L.getD i dOp))) (8 * i) aQ) ∧ (Own w' w.heap.size 3 1 aR (comL M (opN (L.getD i dOp))).length ((comL M (opN (L.getD i dOp))).map (Value.int .i64)))) _ Q T ⟨0, rfl, (zL Q rfl U), (zL Q rfl R), (zL Q rfl S), (zL Q rfl V), (zU Q rfl), (zU Q rfl), (zU Q rfl), (zU Q rfl), (Nat.zero_le _), hb, (Nat.le_refl _), hr, hls, hrs, hLi, hRi, ag, aG, aE, aP, aL⟩ ?_)))))))))))
    rintro _ aZ aX aK aS ⟨j, rfl, aW, aN, aR, aU, aV, aT, aO, aM, hj, hb, aY, hr, hls, hrs, hLi, hRi, ag, aG, aE, aP, aL⟩
    have := hb.size
    refine zF fun _ J3 => zF fun _ J4 => zH ?_
    have hcl := comL_len (M := M) (n := opN (L.getD i dOp))
    have hml := hMi.1
    refine zG (zC aK rfl aM) (zG (zC aK rfl aO) (op_len_rd Try.underlying35 (zA aK rfl) aL.rdw (op_lss (zA aK rfl) (zA aK rfl) (fun aX => ?_) (fun aX => ?_))))
    ·
     refine zB (J4 _ _ (wp_cond_true (zA aK rfl) (wp_skip (J3 _ _ (zF fun _ J3 => wp_block (zF fun _ J4 => reg_still mixed zy ?_))))))
     intro aY aX
     obtain ⟨hb, _⟩ := yE hb aX
     have hr := hr.keep0 aX
     have hls := all9 hls fun _ h => h.keep0 aX
     have hrs := all9 hrs fun _ h => h.keep0 aX
     have hLi := hLi.keep0 aX
     have hRi := hRi.keep0 aX
     have ag := ag.keep0 aX
     have aG := aG.kz aX
     have aE := aE.keep0 aX
     have aP := aP.kz aX
     have aL := aL.keep0 aX
     refine st_step rfl (fun _ h9 => zG (zC aK rfl aT) h9) (st_step rfl (fun _ h9 => zG (zC aK rfl aM) h9) (st_index_rd slt35 (zA aK rfl) aE.rdw (zA aK rfl) zx zx ?_))
     intro aY a1 aZ a0 aX
     refine st_step rfl (fun _ h9 => zN (v := (Value.int .i64 ((comL M (opN (L.getD i dOp))).getD j 0))) one3 (zA aK rfl) (by have := aX 0 (.int .i64 ((comL M (opN (L.getD i dOp))).getD j 0)) zz (el_i64 (i := j) zx zx); simpa using this) h9) (st_step rfl (fun _ h9 => zG (zC aK rfl aO) h9) (st_step rfl (fun _ h9 => zG (zC aK rfl aM) h9) (st_index_rd slt35 (zA aK rfl) aL.rdw (zA aK rfl) zx zx ?_)))
     intro a0 aZ a1 aY aX
     refine st_step rfl (fun _ h9 => zN (v := (Value.int .i64 ((comL M (opN (L.getD i dOp))).getD j 0))) one3 (zA aK rfl) (by have := aX 0 (.int .i64 ((comL M (opN (L.getD i dOp))).getD j 0)) zz (el_i64 (i := j) zx zx); simpa using this) h9) (st_step rfl (fun _ h9 => op_cmp (b := (decide (((comL M (opN (L.getD i dOp))).getD j 0) ≠ ((comL M (opN (L.getD i dOp))).getD j 0)))) (zA aK rfl) (zA aK rfl) (b_neq rfl) h9) (st_nil (J4 _ _ (wp_cond_split (zA aK rfl) (fun aY => ?_) (fun aY => ?_)))))
     ·
      have aY := of_decide_eq_true aY
      exact absurd rfl aY
     have aY := of_decide_eq_false aY
     refine wp_skip (J3 _ _ (zH (zG (zC aK rfl aM) (op_add (zA aK rfl) rfl (add64 zx) (zD (zA aK rfl) (zB ?_))))))
     -- round 21F 28T 36T 74F 75F 94F 113T 130F 136F 141T 152F
     exact zg _ aK aS ⟨(j + 1), rfl, (zL aK rfl aW), (zL aK rfl aN), (zL aK rfl aR), (zL aK rfl aU), (zL aK rfl aV), (zL aK rfl aT), (zL aK rfl aO), (zU aK rfl).trans (congrArg (Value.int .i64) zx), zx, hb, zx, hr, hls, hrs, hLi, hRi, ag, aG, aE, aP, aL⟩ zx
    refine zB (J4 _ _ (wp_cond_false (zA aK rfl) (wp_exit (then_exit (then_exit (blk_hit (Z _ _ (zF fun _ Z => zH (zG (zC aK rfl aN) (zG (zC aK rfl aR) (zM fld103_1 (zC aK rfl aV) (zN one3 (zA aK rfl) (ag.cell rfl) ?_))))))))))))
    have hMn : MIn (comM M (opN (L.getD i dOp))) (i + 1) := hMi.com
    refine zj ok69 (SameQ zx zx (hMn.ok zx) (hMn.sm zx) aG aP) ⟨(zA aK rfl), ⟨(zA aK rfl), ⟨(zA aK rfl), trivial⟩⟩⟩ ?_
    rintro _ aL ⟨aE, rfl⟩
    have aE := zQ aE
    obtain ⟨hb, _⟩ := yE hb aE
    have hr := hr.keep0 aE
    have hls := all9 hls fun _ h => h.keep0 aE
    have hrs := all9 hrs fun _ h => h.keep0 aE
    have aG := aG.kz aE
    have aP := aP.kz aE
    refine op_not (zA aK rfl) (zB (Z _ _ (wp_cond_false (zA aK rfl) (wp_skip (g _ _ (zH (zG (zC aK rfl aU) (op_add (zA aK rfl) rfl (add64 zx) (zD (zA aK rfl) (zB ?_))))))))))
    -- round 21F 28T 36T 74F 75F 94F 113T 130F 136F 141F
    exact zg _ aK aS ⟨(i + 1), comM M (opN (L.getD i dOp)), kk, aI, aQ, rfl, (zL aK rfl aW), (zL aK rfl aR), (zU aK rfl).trans (congrArg (Value.int .i64) zx), (zL aK rfl aN), zx, hMn, aH, hb, zx, hr, hls, hrs, aG, (aP.grow zx)⟩ zx
   refine zD (zA Q rfl) (zB (J3 _ _ (wp_cond_false (zA Q rfl) (zF fun _ J3 => zH (op_eql (zA Q rfl) rfl (fun aE => ?_) (fun aE => ?_))))))
   ·
    refine zD (zA Q rfl) (zB (J3 _ _ (wp_cond_true (zA Q rfl) (zF fun _ J3 => reg_split (hd := [_, _, _, _, _, _, _, _]) (tl := _) 8 mixed zy rfl rfl (any_env (φ := phiV [(fun uz => uz = (ptr kk 0)), (fun uz => uz = (ptr ah 1)), (fun uz => uz = (.int .i64 (opN (L.getD i dOp)))), (fun _ => True), (fun uz => uz = (ptr F 0)), (fun uz => uz = (ptr ah 1)), (fun uz => uz = (.int .i64 (opN (L.getD i dOp)))), (fun _ => True)]) (G := fun w' => Bx w' ah 103 [(.int .i64 (opK (L.getD i dOp))), (.int .i64 (opN (L.getD i dOp))), (opLv (L.getD i dOp)), (.int .u64 ((opS (L.getD i dOp)).toNat : Int)), (opRv (L.getD i dOp)), (.string (bs (opW (L.getD i dOp))))]) [3, 7] zy zy zy zy Q (fun p w2 E h => h.keep0 E) ag (ObEs.cons ?_ (ObEs.cons ?_ (ObEs.cons ?_ (ObEs.pass rfl (ObEs.cons ?_ (ObEs.cons ?_ (ObEs.cons ?_ (ObEs.pass rfl (ObEs.nil))))))))) (by simp only [putsL_defers]) ?_)))))
    ·
     intro eA aA wA hNA hGA hbsA hdpA
     have az := (hbsA 3 rfl).trans (zL Q rfl R)
     refine zG (zC hNA rfl az) ?_
     exact obE_end rfl rfl rfl
    ·
     intro eA aA wA hNA hGA hbsA hdpA
     have aB := (hbsA 6 rfl).trans (zU Q rfl)
     refine zM fld103_1 (zC hNA rfl aB) ?_
     exact obE_end rfl rfl rfl
    ·
     intro eA aA wA hNA hGA hbsA hdpA
     have az : Sl aA 156 (ptr ah 1) := (hdpA 1 _ 156 zy rfl rfl).2 rfl
     refine zN one3 (zC hNA rfl az) (hGA.cell rfl) ?_
     exact obE_end rfl rfl rfl
    ·
     intro eA aA wA hNA hGA hbsA hdpA
     have aF := (hbsA 4 rfl).trans (zL Q rfl S)
     refine zG (zC hNA rfl aF) ?_
     exact obE_end rfl rfl rfl
    ·
     intro eA aA wA hNA hGA hbsA hdpA
     have aB := (hbsA 6 rfl).trans (zU Q rfl)
     refine zM fld103_1 (zC hNA rfl aB) ?_
     exact obE_end rfl rfl rfl
    ·
     intro eA aA wA hNA hGA hbsA hdpA
     have az : Sl aA 160 (ptr ah 1) := (hdpA 5 _ 160 zy rfl rfl).2 rfl
     refine zN one3 (zC hNA rfl az) (hGA.cell rfl) ?_
     exact obE_end rfl rfl rfl
    intro aH az _ aB aF aI aG o_ ho_; obtain rfl := zE ho_
    obtain ⟨hb, _⟩ := yE hb az
    have hls := all9 hls fun _ h => h.keep0 az
    have hrs := all9 hrs fun _ h => h.keep0 az
    have hK := hK.kz az
    have hQ := hQ.kz az
    have ag := ag.keep0 az
    have aK : Sl aB 155 (ptr kk 0) := (aG 0 _ 155 zy rfl rfl).2 rfl
    have aL : Sl aB 157 (.int .i64 (opN (L.getD i dOp))) := (aG 2 _ 157 zy rfl rfl).2 rfl
    refine zj ok57 (LeaveR (n := (opN (L.getD i dOp))) zx hK) ⟨(zC aF rfl aK), ⟨(zC aF rfl aL), trivial⟩⟩ ?_
    rintro _ aQ ⟨aN, rfl, aO, aM, aP⟩
    have aR := hQ.lt
    have aS := ag.lt
    have hK_old := hK
    have := aN.size
    have hls := all9 hls fun _ h => h.keepG aN (fun k hk => .inr (by have := hK_old.lt k hk; omega))
    have hrs := all9 hrs fun _ h => h.keepG aN (fun k hk => .inr (by have := hK_old.lt k hk; omega))
    have ag := ag.keepG aN am
    have hb := below_stepG hb aN hb.size (fun k hk => (hK_old.lt k hk).1)
    have aT : Dj FR aO := Dj.stepF aP (fun k hk => (aR k hk).2) hdj.symm
    refine ke_end rfl zz rfl ag ?_
    intro aZ aU _ aV aX aY aW o_ ho_; obtain rfl := zE ho_
    obtain ⟨hb, _⟩ := yE hb aU
    have hls := all9 hls fun _ h => h.keep0 aU
    have hrs := all9 hrs fun _ h => h.keep0 aU
    have hQ := (hQ.keepG aN hdj.symm).kz aU
    have ag := ag.keep0 aU
    have aM := aM.kz aU
    have a : Sl aV 159 (ptr F 0) := (aW 4 _ 159 zy rfl rfl).2 rfl
    have c : Sl aV 161 (.int .i64 (opN (L.getD i dOp))) := (aW 6 _ 161 zy rfl rfl).2 rfl
    refine zj ok66 (LeaveQ (n := (opN (L.getD i dOp))) zx (hMi.ok zx) hQ) ⟨(zC aX rfl a), ⟨(zC aX rfl c), trivial⟩⟩ ?_
    rintro _ q ⟨a, rfl, m, c, p⟩
    have q := ag.lt
    have q := aM.lt
    have hQ_old := hQ
    have := a.size
    have hls := all9 hls fun _ h => h.keepG a (fun k hk => .inr (by have := hQ_old.lt k hk; omega))
    have hrs := all9 hrs fun _ h => h.keepG a (fun k hk => .inr (by have := hQ_old.lt k hk; omega))
    have ag := ag.keepG a an
    have hb := below_stepG hb a hb.size (fun k hk => (hQ_old.lt k hk).1)
    have t : Dj aO m := Dj.stepF p (fun k hk => (q k hk).2) aT.symm
    refine ke_end rfl zz rfl ag ?_
    intro D q B p A z C
    have A := A.trans ((by simp only [putsL_defers] : _ = _).trans T)
    obtain ⟨hb, _⟩ := yE hb q
    have hr := ((((hr.keep0 az).keepG aN (fun k hk => .inr (by have := hK_old.lt k hk; omega))).keep0 aU).keepG a (fun k hk => .inr (by have := hQ_old.lt k hk; omega))).keep0 q
    have hls := all9 hls fun _ h => h.keep0 q
    have hrs := all9 hrs fun _ h => h.keep0 q
    have ag := ag.keep0 q
    have aM := (aM.keepG a aT.symm).kz q
    have c := c.kz q
    have a := (z 0 rfl).trans (zL Q rfl U)
    have q := (z 3 rfl).trans (zL Q rfl R)
    have D := (z 4 rfl).trans (zL Q rfl S)
    have F := (z 5 rfl).trans (zL Q rfl V)
    have H := (z 6 rfl).trans (zU Q rfl)
    have z : Sl B 158 (.int .i64 (leaveE M (opN (L.getD i dOp)))) := (zE ((C 3 _ 158 rfl rfl).1 0 rfl)).symm
    have I : Sl B 162 (.int .i64 (leaveE M (opN (L.getD i dOp)))) := (zE ((C 7 _ 162 rfl rfl).1 1 rfl)).symm
    refine split_end (from_seq (tl := [_]) zz zy rfl (op_neq (zC p rfl z) (zC p rfl I) (fun B => ?_) (fun B => ?_)))
    ·
     exact absurd rfl B
    refine zB (J3 _ _ (wp_cond_false (zA p rfl) (wp_skip (Z _ _ (zF fun _ Z => zH (zG (zC p rfl q) (zG (zC p rfl D) (zM fld103_1 (zC p rfl H) (zN one3 (zA p rfl) (ag.cell rfl) ?_)))))))))
    have hMn : MIn (mdel M (opN (L.getD i dOp))) (i + 1) := hMi.del
    refine zj ok69 (SameQ zx zx (hMn.ok zx) (hMn.sm zx) aM c) ⟨(zA p rfl), ⟨(zA p rfl), ⟨(zA p rfl), trivial⟩⟩⟩ ?_
    rintro _ B ⟨z, rfl⟩
    have z := zQ z
    obtain ⟨hb, _⟩ := yE hb z
    have hr := hr.keep0 z
    have hls := all9 hls fun _ h => h.keep0 z
    have hrs := all9 hrs fun _ h => h.keep0 z
    have aM := aM.kz z
    have c := c.kz z
    refine op_not (zA p rfl) (zB (Z _ _ (wp_cond_false (zA p rfl) (wp_skip (g _ _ (zH (zG (zC p rfl F) (op_add (zA p rfl) rfl (add64 zx) (zD (zA p rfl) (zB ?_))))))))))
    -- round 21F 28T 36T 74F 75F 94F 113F 154T 163F
    exact zg _ p A ⟨(i + 1), mdel M (opN (L.getD i dOp)), kk, aO, m, rfl, (zL p rfl a), (zL p rfl D), (zU p rfl).trans (congrArg (Value.int .i64) zx), (zL p rfl q), zx, hMn, t, hb, zx, hr, hls, hrs, aM, (c.grow zx)⟩ zx
   refine zD (zA Q rfl) (zB (J3 _ _ (wp_cond_false (zA Q rfl) (zF fun _ J3 => zH (op_eql (zA Q rfl) rfl (fun a => ?_) (fun a => ?_))))))
   ·
    refine zD (zA Q rfl) (zB (J3 _ _ (wp_cond_true (zA Q rfl) (zF fun _ J3 => zH (zG (zC Q rfl R) (zj ok67 (CopyQ zx (hMi.sm zx) hMi.2.1 hK) ⟨(zA Q rfl), trivial⟩ ?_))))))
    rintro _ F ⟨c, D, B, m, z, rfl, A, a, C, t, p, q⟩
    have F := hQ.lt
    have H := ag.lt
    have c := zQ c
    obtain ⟨hb, _⟩ := yE hb c
    have hls := all9 hls fun _ h => h.keep0 c
    have hrs := all9 hrs fun _ h => h.keep0 c
    have hQ := hQ.kz c
    have ag := ag.keep0 c
    have I : Dj FR m := Dj.stepF C (fun k hk => (F k hk).2) hdj.symm
    have C : Dj FR z := Dj.stepF p (fun k hk => (F k hk).2) hdj.symm
    have F : ¬ z ah := ne_stepF p H am
    have hQ := hQ.perm A
    refine zD (zA Q rfl) (zB (J3 _ _ (zF fun _ J3 => zH (zG (zC Q rfl R) (zj ok54 (EnterOld (n := 77) (s := 1) zx t) ⟨(zA Q rfl), ⟨rfl, ⟨rfl, ⟨rfl, trivial⟩⟩⟩⟩ ?_)))))
    rintro _ O ⟨p, K, rfl, z, J, H⟩
    have K := hQ.lt
    have O := ag.lt
    have P := a.lt
    have W := t
    have := p.size
    have hls := all9 hls fun _ h => h.keepG p (fun k hk => .inr (by have := W.lt k hk; omega))
    have hrs := all9 hrs fun _ h => h.keepG p (fun k hk => .inr (by have := W.lt k hk; omega))
    have hQ := hQ.keepG p C
    have ag := ag.keepG p F
    have a := a.keepG p q.symm
    have hb := below_stepG hb p hb.size (fun k hk => (W.lt k hk).1)
    have t : Dj FR z := Dj.stepF H (fun k hk => (K k hk).2) C
    have C : ¬ z ah := ne_stepF H O F
    have F : Dj m z := Dj.stepF H (fun k hk => (P k hk).2) q.symm
    refine zB ?_
    refine J3 _ _ (zF fun _ J3 => zH (zG (zC Q rfl R) (zM fld103_1 (zA Q rfl) (zN one3 (zA Q rfl) (ag.cell rfl) (zj ok57 (LeaveOld (n := (opN (L.getD i dOp))) zx J) ⟨(zA Q rfl), ⟨(zA Q rfl), trivial⟩⟩ ?_)))))
    rintro _ O ⟨q, K, rfl, H, P, z⟩
    have z := hQ.lt
    have z := ag.lt
    have z := a.lt
    have z := J
    have := q.size
    have hls := all9 hls fun _ h => h.keepG q (fun k hk => .inr (by have := z.lt k hk; omega))
    have hrs := all9 hrs fun _ h => h.keepG q (fun k hk => .inr (by have := z.lt k hk; omega))
    have hQ := hQ.keepG q t
    have ag := ag.keepG q C
    have a := a.keepG q F
    have hb := below_stepG hb q hb.size (fun k hk => (z.lt k hk).1)
    refine zB ?_
    refine J3 _ _ (zH (zG (zA Q rfl) (zD (zA Q rfl) (zB (Z _ _ (zF fun _ Z => zH (zG (zA Q rfl) (zG (zC Q rfl S) (zM fld103_1 (zA Q rfl) (zN one3 (zA Q rfl) (ag.cell rfl) ?_))))))))))
    have hMn : MIn B (i + 1) := (MIn.perm hMi A).mono (Nat.le_succ _)
    refine zj ok69 (SameQ zx zx (hMn.ok zx) (hMn.sm zx) a hQ) ⟨(zA Q rfl), ⟨(zA Q rfl), ⟨(zA Q rfl), trivial⟩⟩⟩ ?_
    rintro _ A ⟨t, rfl⟩
    have t := zQ t
    obtain ⟨hb, _⟩ := yE hb t
    have hr := (((hr.keep0 c).keepG p (fun k hk => .inr (by have := W.lt k hk; omega))).keepG q (fun k hk => .inr (by have := z.lt k hk; omega))).keep0 t
    have hls := all9 hls fun _ h => h.keep0 t
    have hrs := all9 hrs fun _ h => h.keep0 t
    have hQ := hQ.kz t
    have a := a.kz t
    refine op_not (zA Q rfl) (zB (Z _ _ (wp_cond_false (zA Q rfl) (wp_skip (g _ _ (zH (zG (zC Q rfl V) (op_add (zA Q rfl) rfl (add64 zx) (zD (zA Q rfl) (zB ?_))))))))))
    -- round 21F 28T 36T 74F 75F 94F 113F 154F 165T
    exact zg _ Q T ⟨(i + 1), B, D, m, FR, rfl, (zL Q rfl U), (zL Q rfl S), (zU Q rfl).trans (congrArg (Value.int .i64) zx), (zU Q rfl), zx, hMn, I.symm, hb, zx, hr, hls, hrs, a, (hQ.grow zx)⟩ zx
   refine zD (zA Q rfl) (zB (J3 _ _ (wp_cond_false (zA Q rfl) (zF fun _ J3 => zH (zG (zC Q rfl R) (zM fld103_1 (zA Q rfl) ?_))))))
   refine zN one3 (zA Q rfl) (ag.cell rfl) (zM fld103_4 (zA Q rfl) (zN one26 (zA Q rfl) (ag.cell rfl) (zM fld103_5 (zA Q rfl) (zN one9 (zA Q rfl) (ag.cell rfl) (zj ok55 (AskR (n := (opN (L.getD i dOp))) (Rs := (opR (L.getD i dOp))) (x := (opW (L.getD i dOp))) zx (hMi.ok zx) (hMi.sm zx) zx hRi zx (fun y hy => .inr (Nat.le_trans zx (hK.lt y hy).1)) hK) ⟨(zA Q rfl), ⟨(zA Q rfl), ⟨(zA Q rfl), ⟨(zA Q rfl), trivial⟩⟩⟩⟩ ?_)))))
   rintro _ q ⟨a, rfl, m, c, p⟩
   have q := hQ.lt
   have t := ag.lt
   have hK_old := hK
   have := a.size
   have hls := all9 hls fun _ h => h.keepG a (fun k hk => .inr (by have := hK_old.lt k hk; omega))
   have hrs := all9 hrs fun _ h => h.keepG a (fun k hk => .inr (by have := hK_old.lt k hk; omega))
   have hQ := hQ.keepG a hdj.symm
   have hRi := hRi.keepG a (fun k hk => .inr (by have := hK_old.lt k hk; omega))
   have ag := ag.keepG a am
   have hb := below_stepG hb a hb.size (fun k hk => (hK_old.lt k hk).1)
   have t : Dj FR m := Dj.stepF p (fun k hk => (q k hk).2) hdj.symm
   refine zG (zA Q rfl) (zW (zA Q rfl) rfl (zW (zA Q rfl) rfl (zD (zA Q rfl) (zD (zA Q rfl) (zB (J3 _ _ (zF fun _ J3 => zH (zG (zC Q rfl S) (zM fld103_1 (zA Q rfl) ?_)))))))))
   refine zN one3 (zA Q rfl) (ag.cell rfl) (zM fld103_4 (zA Q rfl) (zN one26 (zA Q rfl) (ag.cell rfl) (zM fld103_5 (zA Q rfl) (zN one9 (zA Q rfl) (ag.cell rfl) (zj ok68 (AskQ (n := (opN (L.getD i dOp))) (Rs := (opR (L.getD i dOp))) (x := (opW (L.getD i dOp))) (lo := w.heap.size) zx (hMi.ok zx) (hMi.sm zx) zx zx hRi zx hQ) ⟨(zA Q rfl), ⟨(zA Q rfl), ⟨(zA Q rfl), ⟨(zA Q rfl), trivial⟩⟩⟩⟩ ?_)))))
   rintro _ B ⟨p, rfl, z, q, A⟩
   have B := ag.lt
   have B := c.lt
   have hQ_old := hQ
   have := p.size
   have hr := (hr.keepG a (fun k hk => .inr (by have := hK_old.lt k hk; omega))).keepG p (fun k hk => .inr (by have := hQ_old.lt k hk; omega))
   have hls := all9 hls fun _ h => h.keepG p (fun k hk => .inr (by have := hQ_old.lt k hk; omega))
   have hrs := all9 hrs fun _ h => h.keepG p (fun k hk => .inr (by have := hQ_old.lt k hk; omega))
   have ag := ag.keepG p an
   have c := c.keepG p t.symm
   have hb := below_stepG hb p hb.size (fun k hk => (hQ_old.lt k hk).1)
   have a : Dj m z := Dj.stepF A (fun k hk => (B k hk).2) t.symm
   refine zG (zA Q rfl) ?_
   refine zW (zA Q rfl) rfl (zW (zA Q rfl) rfl (zD (zA Q rfl) (zD (zA Q rfl) (zB (J3 _ _ (zF fun _ J3 => zH (zG (zA Q rfl) (zG (zA Q rfl) (op_neq (zA Q rfl) (zA Q rfl) (fun p => ?_) (fun p => ?_))))))))))
   ·
    exact absurd rfl p
   refine zG (zA Q rfl) (zS (j := 3) (dj := 68) (b := false) rfl rfl rfl (zA Q rfl) (zG (zA Q rfl) (zS (j := 3) (dj := 68) (b := false) rfl rfl rfl (zA Q rfl) (zG (zA Q rfl) (zS (j := 3) (dj := 68) (b := false) rfl rfl rfl (zA Q rfl) (op_neq (zA Q rfl) (zA Q rfl) (fun p => ?_) (fun p => ?_)))))))
   ·
    exact absurd rfl p
   refine zd (zA Q rfl) (zA Q rfl) (zB (J3 _ _ (wp_cond_false (zA Q rfl) (wp_skip (Z _ _ (zF fun _ Z => zH (zG (zC Q rfl R) (zG (zC Q rfl S) (zM fld103_1 (zA Q rfl) (zN one3 (zA Q rfl) (ag.cell rfl) ?_))))))))))
   have hMn : MIn (askM M (opN (L.getD i dOp)) (opR (L.getD i dOp)) (opW (L.getD i dOp))) (i + 1) := hMi.ask zx
   refine zj ok69 (SameQ zx zx (hMn.ok zx) (hMn.sm zx) c q) ⟨(zA Q rfl), ⟨(zA Q rfl), ⟨(zA Q rfl), trivial⟩⟩⟩ ?_
   rintro _ t ⟨p, rfl⟩
   have p := zQ p
   obtain ⟨hb, _⟩ := yE hb p
   have hr := hr.keep0 p
   have hls := all9 hls fun _ h => h.keep0 p
   have hrs := all9 hrs fun _ h => h.keep0 p
   have c := c.kz p
   have q := q.kz p
   refine op_not (zA Q rfl) (zB (Z _ _ (wp_cond_false (zA Q rfl) (wp_skip (g _ _ (zH (zG (zC Q rfl V) (op_add (zA Q rfl) rfl (add64 zx) (zD (zA Q rfl) (zB ?_))))))))))
   -- round 21F 28T 36T 74F 75F 94F 113F 154F 165F 67F 71F
   exact zg _ Q T ⟨(i + 1), askM M (opN (L.getD i dOp)) (opR (L.getD i dOp)) (opW (L.getD i dOp)), kk, m, z, rfl, (zL Q rfl U), (zL Q rfl S), (zU Q rfl).trans (congrArg (Value.int .i64) zx), (zL Q rfl R), zx, hMn, a, hb, zx, hr, hls, hrs, c, (q.grow zx)⟩ zx
  rw [au]
  refine op_not (zA Q rfl) (zB (J3 _ _ (wp_cond_true (zA Q rfl) (zF fun _ J3 => zH (zD rfl (zB (J3 _ _ (wp_ret (zO (zb (zO (zO (zb (zO ( (ret1 rfl T (zA Q rfl) ⟨_, rfl, ?_⟩))))))))))))))))
  exact ⟨hb, rfl⟩
 refine zB (Z _ _ (wp_cond_false (zA Q rfl) (wp_exit (then_exit (then_exit (blk_hit (f _ _ (zF fun _ f => zH (zD rfl (zB (f _ _ (wp_ret (ret1 rfl T (zA Q rfl) ⟨_, rfl, ?_⟩)))))))))))))
 exact ⟨hb, rfl⟩

end Go.Proofs.Ytmhdbphpmgjpcaa

namespace Go.Proofs.Ytmhdbphpmgjpcaa
open Go.Gx Go.RowKit
theorem rd_le {w : World} {L B sz n : Nat} {v : Value} {cs : List Value} (h : RdC w L B sz v n cs) : n ≤ 9223372036854775807 := by obtain ⟨_, _, _, _, hq, hm, _⟩ := h; exact Nat.le_trans hq hm
theorem cells46 : Try.prog.cellsOf 46 = 1 := by kernel_rfl
theorem flat_u16v (l : List UInt16) : l.flatMap (fun c => [u16v c]) = l.map u16v := by induction l with | nil => rfl | cons c l ih => simp [ih]
theorem dec54 {H : Type} {enc : TypeId × Value → H} {w : World} {base : Nat} {spare : Nat → Bool} {held : Bool} : Dec enc Try.prog w base spare held 54 (fun p : Value × List UInt16 => [p.1]) (fun p => RdC w 0 w.heap.size 1 p.1 p.2.length (p.2.map u16v)) :=
  (Dec.slice Try.underlying54 (by rw [cells46]; decide) (Dec.u16 Try.underlying46) (fun _ _ => by rw [cells46]; rfl)).map fun p hp => ⟨p, rfl, by have hq := hp.1; rwa [cells46, flat_u16v] at hq⟩
theorem cells54 : Try.prog.cellsOf 54 = 1 := by kernel_rfl
theorem cells3 : Try.prog.cellsOf 3 = 1 := by kernel_rfl
theorem cells9 : Try.prog.cellsOf 9 = 1 := by kernel_rfl
theorem dec26 {H : Type} {enc : TypeId × Value → H} {w : World} {base : Nat} {spare : Nat → Bool} {held : Bool} : Dec enc Try.prog w base spare held 26 (fun p : Value × List (List UInt8) => [p.1]) (fun p => RdC w 0 w.heap.size 1 p.1 p.2.length (p.2.flatMap (fun s => [.string (bs s)])) ∧ ∀ x ∈ p.2, x.length ≤ maxLen) :=
  (Dec.slice Try.underlying26 (by rw [cells9]; decide) (Dec.str Try.underlying9) (fun _ _ => by rw [cells9]; rfl)).map fun p hp => ⟨p, rfl, by have hq := hp.1; rw [cells9] at hq; exact hq, hp.2⟩
theorem cells103 : Try.prog.cellsOf 103 = 6 := by kernel_rfl
theorem cells61 : Try.prog.cellsOf 61 = 1 := by kernel_rfl
theorem cells26 : Try.prog.cellsOf 26 = 1 := by kernel_rfl
theorem len_6 {l : List Value} (h : l.length = 6) : ∃ c0 c1 c2 c3 c4 c5, l = [c0, c1, c2, c3, c4, c5] := by match l, h with | [c0, c1, c2, c3, c4, c5], _ => exact ⟨c0, c1, c2, c3, c4, c5, rfl⟩
theorem dec103 {H : Type} {enc : TypeId × Value → H} {w : World} {base : Nat} {spare : Nat → Bool} {held : Bool} : Dec enc Try.prog w base spare held 103 (fun p : (Int) × (Int) × (Value × List UInt16) × (UInt64) × (Value × List (List UInt8)) × (List UInt8) => [.int .i64 p.1, .int .i64 p.2.1, p.2.2.1.1, .int .u64 (p.2.2.2.1.toNat : Int), p.2.2.2.2.1.1, .string (bs p.2.2.2.2.2)]) (fun p => (Lit.int .i64 p.1).wf = true ∧ (Lit.int .i64 p.2.1).wf = true ∧ (RdC w 0 w.heap.size 1 p.2.2.1.1 p.2.2.1.2.length (p.2.2.1.2.map u16v)) ∧ (RdC w 0 w.heap.size 1 p.2.2.2.2.1.1 p.2.2.2.2.1.2.length (p.2.2.2.2.1.2.flatMap (fun s => [.string (bs s)])) ∧ ∀ z26 ∈ p.2.2.2.2.1.2, z26.length ≤ maxLen) ∧ p.2.2.2.2.2.length ≤ maxLen) := by
  intro fuel cs x h
  obtain ⟨xs, n, _, _, hl, hlen, hf⟩ := DataW.trod_struct Try.underlying103 h
  rw [cells103] at hl
  obtain ⟨c0, c1, c2, c3, c4, c5, rfl⟩ := len_6 hl
  have hl4 : xs.length = 6 := hlen
  have g0 : DataW.trod enc Try.prog w base spare held n 3 (([c0, c1, c2, c3, c4, c5].drop 0).take (Try.prog.cellsOf 3)) = some xs[0] := (hf 0 _ rfl).trans (List.getElem?_eq_getElem (by omega))
  have g1 : DataW.trod enc Try.prog w base spare held n 3 (([c0, c1, c2, c3, c4, c5].drop 1).take (Try.prog.cellsOf 3)) = some xs[1] := (hf 1 _ rfl).trans (List.getElem?_eq_getElem (by omega))
  have g2 : DataW.trod enc Try.prog w base spare held n 54 (([c0, c1, c2, c3, c4, c5].drop 2).take (Try.prog.cellsOf 54)) = some xs[2] := (hf 2 _ rfl).trans (List.getElem?_eq_getElem (by omega))
  have g3 : DataW.trod enc Try.prog w base spare held n 61 (([c0, c1, c2, c3, c4, c5].drop 3).take (Try.prog.cellsOf 61)) = some xs[3] := (hf 3 _ rfl).trans (List.getElem?_eq_getElem (by omega))
  have g4 : DataW.trod enc Try.prog w base spare held n 26 (([c0, c1, c2, c3, c4, c5].drop 4).take (Try.prog.cellsOf 26)) = some xs[4] := (hf 4 _ rfl).trans (List.getElem?_eq_getElem (by omega))
  have g5 : DataW.trod enc Try.prog w base spare held n 9 (([c0, c1, c2, c3, c4, c5].drop 5).take (Try.prog.cellsOf 9)) = some xs[5] := (hf 5 _ rfl).trans (List.getElem?_eq_getElem (by omega))
  obtain ⟨b0, e0, w0⟩ := (Dec.int Try.underlying3) _ _ _ g0
  obtain ⟨b1, e1, w1⟩ := (Dec.int Try.underlying3) _ _ _ g1
  obtain ⟨b2, e2, w2⟩ := dec54 _ _ _ g2
  obtain ⟨b3, e3, w3⟩ := (Dec.u64 Try.underlying61) _ _ _ g3
  obtain ⟨b4, e4, w4⟩ := dec26 _ _ _ g4
  obtain ⟨b5, e5, w5⟩ := (Dec.str Try.underlying9) _ _ _ g5
  simp only [cells3, cells54, cells61, cells26, cells9, List.drop_zero, List.drop_succ_cons, List.take_succ_cons, List.take_zero, List.cons.injEq, and_true] at e0 e1 e2 e3 e4 e5
  clear hf h g0 g1 g2 g3 g4 g5
  obtain rfl := e0
  obtain rfl := e1
  obtain rfl := e2
  obtain rfl := e3
  obtain rfl := e4
  obtain rfl := e5
  exact ⟨⟨b0, b1, b2, b3, b4, b5⟩, rfl, ⟨w0, w1, w2, w4, w5⟩⟩
theorem dec99 {H : Type} {enc : TypeId × Value → H} {w : World} {base : Nat} {spare : Nat → Bool} {held : Bool} : Dec enc Try.prog w base spare held 99 (fun p : Value × List ((Int) × (Int) × (Value × List UInt16) × (UInt64) × (Value × List (List UInt8)) × (List UInt8)) => [p.1]) (fun p => RdC w 0 w.heap.size 6 p.1 p.2.length (p.2.flatMap (fun (x9 : (Int) × (Int) × (Value × List UInt16) × (UInt64) × (Value × List (List UInt8)) × (List UInt8)) => [.int .i64 x9.1, .int .i64 x9.2.1, x9.2.2.1.1, .int .u64 (x9.2.2.2.1.toNat : Int), x9.2.2.2.2.1.1, .string (bs x9.2.2.2.2.2)])) ∧ ∀ x ∈ p.2, ((Lit.int .i64 x.1).wf = true ∧ (Lit.int .i64 x.2.1).wf = true ∧ (RdC w 0 w.heap.size 1 x.2.2.1.1 x.2.2.1.2.length (x.2.2.1.2.map u16v)) ∧ (RdC w 0 w.heap.size 1 x.2.2.2.2.1.1 x.2.2.2.2.1.2.length (x.2.2.2.2.1.2.flatMap (fun s => [.string (bs s)])) ∧ ∀ z26 ∈ x.2.2.2.2.1.2, z26.length ≤ maxLen) ∧ x.2.2.2.2.2.length ≤ maxLen)) :=
  (Dec.slice Try.underlying99 (by rw [cells103]; decide) dec103 (fun _ _ => by rw [cells103]; rfl)).map fun p hp => ⟨p, rfl, by have hq := hp.1; rw [cells103] at hq; exact hq, hp.2⟩
end Go.Proofs.Ytmhdbphpmgjpcaa
