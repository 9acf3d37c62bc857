/- Walks, written by a program: what each function of the translation hands back. -/
import Derived.Test.YthflnkfghogaoaaB2
set_option linter.unusedVariables false
set_option linter.unusedSimpArgs false

namespace Go.Proofs.Ythflnkfghogaoaa
open Go.Gx Go.RowKit
attribute [local irreducible] wpList wpStill Code.wp Calls

theorem twin0_ret (tv : Value) (D : List DTab) (w : World) (hT : TsRd w w.heap.size tv D) (hD : D.length ≤ 1000000) (hsz : ∀ d ∈ D, d.t.cols.length ≤ 1000000 ∧ d.t.idx.length ≤ 1000000) : Ret Try.prog 60 #[(Value.agg #[tv, (Value.slice none 0 0)])] w (fun v' w' => Below w.heap.size w w' ∧ ∃ (tv' : Value) (D' : List DTab) (F' : Nat → Prop), v' = .agg #[tv', .slice none 0 0] ∧ Own w' w.heap.size 55 3 tv' D'.length (D'.flatMap cellsT) ∧ TabsR w' w.heap.size D' F' ∧ D'.map DTab.t = D.map DTab.t) := by
 have hR := hT.1
 have hb := Below.refl w.heap.size w
 refine enter (N := 53) Try.func60 rfl rfl (by simp) fun a0 hN hd hA => ?_
 have s0 : a0.tmps.getD 0 undef = (Value.agg #[tv, (Value.slice none 0 0)]) := hA 0 (by simp)
 clear hA
 refine seq_any fun K1 hK1 => one_reg (op_box (cs := [tv, (Value.slice none 0 0)]) (ev_base hN rfl s0) rfl ?_)
 intro w2 b3 lo_b3 hi_b3 hB5 E4
 have z_w2 := E4.size
 have hR := hR.keep0 E4
 have hT := hT.keep0 E4
 have hb := below_step0 hb E4 hb.size
 refine op_alloc (cs := [(Value.slice none 0 0), (Value.slice none 0 0)]) zero39 rfl ?_
 intro w6 b7 lo_b7 hi_b7 hB9 E8
 have z_w6 := E8.size
 have hR := hR.keep0 E8
 have hT := hT.keep0 E8
 have hB5 := hB5.keep0 E8
 have hb := below_step0 hb E8 hb.size
 refine reg_nil (hK1 _ _ (seq_any fun K10 hK10 => one_reg (op_alloc (cs := [(Value.slice none 0 0), (Value.slice none 0 0)]) zero39 rfl ?_)))
 intro w11 b12 lo_b12 hi_b12 hB14 E13
 have z_w11 := E13.size
 have hR := hR.keep0 E13
 have hT := hT.keep0 E13
 have hB5 := hB5.keep0 E13
 have hB9 := hB9.keep0 E13
 have hb := below_step0 hb E13 hb.size
 refine reg_nil ?_
 refine hK10 _ _ (seq_any fun K15 hK15 => seq_any fun K16 hK16 => one_reg (op_field fld39_0 (ev_hit hN rfl) (op_load1 (v := tv) one36 (ev_hit hN rfl) (hB5.cell rfl) (op_len_rd Try.underlying36 (ev_hit hN rfl) hR ?_))))
 refine op_move rfl (reg_nil (hK16 _ _ (wp_block ?_)))
 refine loop_m (fun mz_ az_ w' => ∃ (i : Nat) (lv : Value) (D2 : List DTab) (F0S : Nat → Prop), mz_ = D.length - i ∧ (az_.tmps.getD 1 undef = (ptr b3 0)) ∧ (az_.tmps.getD 2 undef = (ptr b7 0)) ∧ (az_.tmps.getD 3 undef = (ptr b12 0)) ∧ (az_.tmps.getD 9 undef = tv) ∧ (az_.tmps.getD 10 undef = (Value.int .i64 ((D.length : Nat) : Int))) ∧ (az_.tmps.getD 11 undef = (Value.int .i64 ((i : Nat) : Int))) ∧ (i ≤ D.length) ∧ (D2.length = i) ∧ (D2.map DTab.t = (D.take i).map DTab.t) ∧ (Below w.heap.size w w') ∧ (w11.heap.size ≤ w'.heap.size) ∧ (RdC w' 0 w.heap.size 3 tv D.length (D.flatMap cellsT)) ∧ (TsRd w' w.heap.size tv D) ∧ (Bx w' b3 39 [tv, (Value.slice none 0 0)]) ∧ (Bx w' b7 39 [(Value.slice none 0 0), (Value.slice none 0 0)]) ∧ (Bx w' b12 39 [lv, (Value.slice none 0 0)]) ∧ (TabsR w' w.heap.size D2 F0S) ∧ (Own w' w.heap.size 55 3 lv D2.length (D2.flatMap cellsT))) _ hN hd ⟨0, (Value.slice none 0 0), [], NoB, rfl, (sl_hit hN rfl), (sl_hit hN rfl), (sl_hit hN rfl), (sl_hit hN rfl), (sl_hit hN rfl), (sl_hit hN rfl), (Nat.zero_le _), rfl, rfl, hb, (Nat.le_refl _), hR, hT, hB5, hB9, hB14, (TabsR.nil _ _), (Own.nil _ _ _ _)⟩ ?_
 rintro _ a17 w17 hN17 hd17 ⟨i, lv, D2, F0S, rfl, s17_1, s17_2, s17_3, s17_9, s17_10, s17_11, hi, hl2, hM, hb, zl_w17, hR, hT, hB5, hB9, hxt, hS, hO18⟩
 have z_w17 := hb.size
 refine seq_any fun K19 hK19 => ?_
 refine one_reg (op_lss (ev_base hN17 rfl s17_11) (ev_base hN17 rfl s17_10) (fun c12 => ?_) (fun c12 => ?_))
 ·
  refine reg_nil ?_
  refine hK19 _ _ (seq_any fun K20 hK20 => wp_cond_true (ev_hit hN17 rfl) (wp_skip (hK20 _ _ (seq_any fun K21 hK21 => wp_block ?_))))
  refine seq_any fun K22 hK22 => one_reg (op_index_rd slt36 (ev_base hN17 rfl s17_9) hR (ev_base hN17 rfl s17_11) (by omega) (by omega) ?_)
  intro b23 o24 h0b23 h1b23 hc25
  refine op_loadA (cs := [(Value.string (bs (D.getD i default).t.nm)), (D.getD i default).cv, (D.getD i default).iv]) agg55 rfl (ev_hit hN17 rfl) (fun j u hu => hc25 j u (by have := (List.getElem?_eq_some_iff.1 hu).1; simpa using this) ((el_dt (i := i) (by omega) (by omega)) j u hu)) ?_
  refine op_alloc (cs := [(Value.string (bs [])), (Value.slice none 0 0), (Value.slice none 0 0)]) zero55 rfl ?_
  intro w26 b27 lo_b27 hi_b27 hB29 E28
  have dj30 : ¬ F0S b27 := fun hf => by have := (hS.lt _ hf).2; omega
  have ne_b27_lv : lv.ownBlock ≠ some b27 := fun hh => by have := (hO18.lt _ hh).2; omega
  have z_w26 := E28.size
  have hR := hR.keep0 E28
  have hT := hT.keep0 E28
  have hB5 := hB5.keep0 E28
  have hB9 := hB9.keep0 E28
  have hxt := hxt.keep0 E28
  have hS := hS.kz E28
  have hO18 := hO18.keep0 E28
  have hb := below_step0 hb E28 hb.size
  have hB29_old := hB29
  refine op_store (vs := [(Value.string (bs (D.getD i default).t.nm)), (D.getD i default).cv, (D.getD i default).iv]) (cs' := [(Value.string (bs (D.getD i default).t.nm)), (D.getD i default).cv, (D.getD i default).iv]) size55 (ev_hit hN17 rfl) (ev_hit hN17 rfl) rfl rfl (by simp only [List.all_cons, List.all_nil, Bool.true_and, Bool.and_true, (hT.2 (D.getD i default) (getD_mem (by omega))).1.one, (hT.2 (D.getD i default) (getD_mem (by omega))).2.one]; try rfl) hB29 (Nat.le_of_ble_eq_true rfl) rfl ?_
  intro w33 hB29 E34
  have z_w33 := E34.size
  have hR := hR.keep E34 (fun k hk => .inr (by simp at hk; omega))
  have hT := hT.keep E34 (fun k hk => .inr (by simp at hk; omega))
  have hB5 := hB5.keep E34 (fun hh => hB5.ne hB29_old (by decide) (Option.some.inj hh))
  have hB9 := hB9.keep E34 (fun hh => hB9.ne hB29_old (by decide) (Option.some.inj hh))
  have hxt := hxt.keep E34 (fun hh => hxt.ne hB29_old (by decide) (Option.some.inj hh))
  have hS := hS.keepG (Gr.of E34) (Dj.one dj30)
  have hO18 := hO18.keep E34 (.inr ne_b27_lv)
  have hb := below_step1 hb E34 hb.size (by omega)
  refine reg_nil (hK22 _ _ (seq_any fun K35 hK35 => ?_))
  have hti := hT.2 (D.getD i default) (getD_mem (by omega))
  have htl := hsz (D.getD i default) (getD_mem (by omega))
  have htc := hti.1
  have htx := hti.2
  refine reg_split (hd := [_, _, _, _, _, _, _, _]) (tl := _) 8 mixed (by kernel_rfl) rfl rfl ?_
  refine any_treek (φ := phiV [(fun uz => uz = (ptr b27 1)), (fun uz => uz = (D.getD i default).cv), (fun _ => True), (fun uz => uz = (ptr b27 2)), (fun uz => uz = (D.getD i default).iv), (fun _ => True), (fun uz => uz = (ptr b27 1)), (fun _ => True)]) (G := fun t9 w' => 7 ∈ t9 → (Bx w' b27 55 [(Value.string (bs (D.getD i default).t.nm)), (D.getD i default).cv, (D.getD i default).iv])) [2, 5, 7] (by kernel_rfl) (by kernel_rfl) (by kernel_rfl) (by kernel_rfl) (by kernel_rfl) hN17 (fun _ w1 w2 E h hc9 => (h hc9).keep0 E) (fun _ => hB29) (ObRk9.cons ?_ (ObRk9.cons ?_ (ObRk9.pass rfl (ObRk9.cons ?_ (ObRk9.cons ?_ (ObRk9.pass rfl (ObRk9.cons ?_ (ObRk9.pass rfl (ObRk9.nil))))))))) (by simp only [putsL_defers]) ?_
  ·
   intro eA tA aA wA hNA hckA hGA hbsA hdpA
   have qA_5 := (hbsA 5 rfl).trans (sl_hit hN17 rfl)
   refine op_field fld55_1 (ev_base hNA rfl qA_5) ?_
   exact obTk_end rfl rfl
  ·
   intro eA tA aA wA hNA hckA hGA hbsA hdpA
   have qA_15 : Sl aA 15 (ptr b27 1) := (hdpA 0 _ 15 (by kernel_rfl) rfl rfl).2 rfl
   have hGA := hGA (hckA 7 rfl (by kernel_rfl))
   refine op_load1 (v := (D.getD i default).cv) one41 (ev_base hNA rfl qA_15) (hGA.cell rfl) ?_
   exact obTk_end rfl rfl
  ·
   intro eA tA aA wA hNA hckA hGA hbsA hdpA
   have qA_5 := (hbsA 5 rfl).trans (sl_hit hN17 rfl)
   refine op_field fld55_2 (ev_base hNA rfl qA_5) ?_
   exact obTk_end rfl rfl
  ·
   intro eA tA aA wA hNA hckA hGA hbsA hdpA
   have qA_18 : Sl aA 18 (ptr b27 2) := (hdpA 3 _ 18 (by kernel_rfl) rfl rfl).2 rfl
   have hGA := hGA (hckA 7 rfl (by kernel_rfl))
   refine op_load1 (v := (D.getD i default).iv) one53 (ev_base hNA rfl qA_18) (hGA.cell rfl) ?_
   exact obTk_end rfl rfl
  ·
   intro eA tA aA wA hNA hckA hGA hbsA hdpA
   have qA_5 := (hbsA 5 rfl).trans (sl_hit hN17 rfl)
   refine op_field fld55_1 (ev_base hNA rfl qA_5) ?_
   exact obTk_end rfl rfl
  ·
   refine ktk_step (rs := [2]) (by kernel_rfl) ?_
   refine one_mem ?_
   intro w37 E37 _ a37 hN37 hbs37 hdp37 o_ ho_; obtain rfl := Option.some.inj ho_
   have z_w37 := E37.size
   have hR := hR.keep0 E37
   have hT := hT.keep0 E37
   have hB5 := hB5.keep0 E37
   have hB9 := hB9.keep0 E37
   have hxt := hxt.keep0 E37
   have hS := hS.kz E37
   have hO18 := hO18.keep0 E37
   have hB29 := hB29.keep0 E37
   have htc := htc.keep0 E37
   have htx := htx.keep0 E37
   have hb := below_step0 hb E37 hb.size
   have q37_16 : Sl a37 16 (D.getD i default).cv := (hdp37 1 _ 16 (by kernel_rfl) rfl rfl).2 rfl
   refine op_fn (vs := [(D.getD i default).cv]) ok89 ⟨(ev_base hN37 rfl q37_16), trivial⟩ (CloneC ((D.getD i default).t.cols) _ _ (by first | assumption | omega | (simp only [List.length_append, List.length_cons, List.length_nil, List.length_drop, List.length_take]; omega) | (dsimp only; omega) | decide | (simp [keyV, be8_len]; done)) (htc.mono (Nat.zero_le _) (by omega))) ?_
   rintro v38 w39 ⟨E40, hO38⟩
   have E40 := grown_of_below E40
   have z_w39 := E40.size
   have hR := hR.keep0 E40
   have hT := hT.keep0 E40
   have hB5 := hB5.keep0 E40
   have hB9 := hB9.keep0 E40
   have hxt := hxt.keep0 E40
   have hS := hS.kz E40
   have hO18 := hO18.keep0 E40
   have hB29 := hB29.keep0 E40
   have htx := htx.keep0 E40
   have hb := below_step0 hb E40 hb.size
   have hO38 := hO38.mono (base' := w.heap.size) (by omega)
   refine ktk_end (G := fun t9 w' => 7 ∈ t9 → (Bx w' b27 55 [(Value.string (bs (D.getD i default).t.nm)), (D.getD i default).cv, (D.getD i default).iv])) (todo := [2, 5, 7]) (i := 2) rfl (fun _ => hB29) ?_
   refine ktk_step (rs := [5]) (by kernel_rfl) ?_
   refine one_mem ?_
   intro w43 E43 _ a43 hN43 hbs43 hdp43 o_ ho_; obtain rfl := Option.some.inj ho_
   have z_w43 := E43.size
   have hR := hR.keep0 E43
   have hT := hT.keep0 E43
   have hB5 := hB5.keep0 E43
   have hB9 := hB9.keep0 E43
   have hxt := hxt.keep0 E43
   have hS := hS.kz E43
   have hO18 := hO18.keep0 E43
   have hB29 := hB29.keep0 E43
   have htx := htx.keep0 E43
   have hO38 := hO38.keep0 E43
   have hb := below_step0 hb E43 hb.size
   have q43_19 : Sl a43 19 (D.getD i default).iv := (hdp43 4 _ 19 (by kernel_rfl) rfl rfl).2 rfl
   refine op_fn (vs := [(D.getD i default).iv]) ok90 ⟨(ev_base hN43 rfl q43_19), trivial⟩ (CloneS ((D.getD i default).t.idx) _ _ (by first | assumption | omega | (simp only [List.length_append, List.length_cons, List.length_nil, List.length_drop, List.length_take]; omega) | (dsimp only; omega) | decide | (simp [keyV, be8_len]; done)) (htx.mono (Nat.zero_le _) (by omega))) ?_
   rintro v44 w45 ⟨E46, hO44⟩
   have E46 := grown_of_below E46
   have z_w45 := E46.size
   have hR := hR.keep0 E46
   have hT := hT.keep0 E46
   have hB5 := hB5.keep0 E46
   have hB9 := hB9.keep0 E46
   have hxt := hxt.keep0 E46
   have hS := hS.kz E46
   have hO18 := hO18.keep0 E46
   have hB29 := hB29.keep0 E46
   have hO38 := hO38.keep0 E46
   have hb := below_step0 hb E46 hb.size
   have hO44 := hO44.mono (base' := w.heap.size) (by omega)
   refine ktk_end (G := fun t9 w' => 7 ∈ t9 → (Bx w' b27 55 [(Value.string (bs (D.getD i default).t.nm)), (D.getD i default).cv, (D.getD i default).iv])) (todo := [5, 7]) (i := 5) rfl (fun _ => hB29) ?_
   refine ktk_step (rs := [7]) (by kernel_rfl) ?_
   refine one_mem ?_
   intro w49 E49 _ a49 hN49 hbs49 hdp49 o_ ho_; obtain rfl := Option.some.inj ho_
   have z_w49 := E49.size
   have hR := hR.keep0 E49
   have hT := hT.keep0 E49
   have hB5 := hB5.keep0 E49
   have hB9 := hB9.keep0 E49
   have hxt := hxt.keep0 E49
   have hS := hS.kz E49
   have hO18 := hO18.keep0 E49
   have hB29 := hB29.keep0 E49
   have hO38 := hO38.keep0 E49
   have hO44 := hO44.keep0 E49
   have hb := below_step0 hb E49 hb.size
   have q49_21 : Sl a49 21 (ptr b27 1) := (hdp49 6 _ 21 (by kernel_rfl) rfl rfl).2 rfl
   have q49_17 : Sl a49 17 v38 := (Option.some.inj ((hdp49 2 _ 17 (by kernel_rfl) rfl rfl).1 rfl)).symm
   have hB29_old := hB29
   refine op_store (vs := [v38]) (cs' := [(Value.string (bs (D.getD i default).t.nm)), v38, (D.getD i default).iv]) size41 (ev_base hN49 rfl q49_21) (ev_base hN49 rfl q49_17) hO38.cl rfl (by simp only [List.all_cons, List.all_nil, Bool.true_and, Bool.and_true, hO38.one]; try rfl) hB29 (Nat.le_of_ble_eq_true rfl) rfl ?_
   intro w52 hB29 E53
   have z_w52 := E53.size
   have hR := hR.keep E53 (fun k hk => .inr (by simp at hk; omega))
   have hT := hT.keep E53 (fun k hk => .inr (by simp at hk; omega))
   have hB5 := hB5.keep E53 (fun hh => hB5.ne hB29_old (by decide) (Option.some.inj hh))
   have hB9 := hB9.keep E53 (fun hh => hB9.ne hB29_old (by decide) (Option.some.inj hh))
   have hxt := hxt.keep E53 (fun hh => hxt.ne hB29_old (by decide) (Option.some.inj hh))
   have hS := hS.keepG (Gr.of E53) (Dj.one dj30)
   have hO18 := hO18.keep E53 (.inr ne_b27_lv)
   have hO38 := hO38.keepX hB29_old E53 (by decide)
   have hO44 := hO44.keepX hB29_old E53 (by decide)
   have hb := below_step1 hb E53 hb.size (by omega)
   refine ktk_end0 (G := fun t9 w' => 7 ∈ t9 → (Bx w' b27 55 [(Value.string (bs (D.getD i default).t.nm)), (D.getD i default).cv, (D.getD i default).iv])) (todo := [7]) (i := 7) rfl (fun h => absurd h (by decide)) ?_
   intro w54 E54 a54 hN54 hd54 hbs54 hph54
   have hd54 := hd54.trans ((by simp only [putsL_defers] : _ = _).trans hd17)
   have z_w54 := E54.size
   have hR := hR.keep0 E54
   have hT := hT.keep0 E54
   have hB5 := hB5.keep0 E54
   have hB9 := hB9.keep0 E54
   have hxt := hxt.keep0 E54
   have hS := hS.kz E54
   have hO18 := hO18.keep0 E54
   have hO38 := hO38.keep0 E54
   have hO44 := hO44.keep0 E54
   have hB29 := hB29.keep0 E54
   have hb := below_step0 hb E54 hb.size
   have s54_1 := (hbs54 1 rfl).trans (sl_base hN17 rfl s17_1)
   have s54_2 := (hbs54 2 rfl).trans (sl_base hN17 rfl s17_2)
   have s54_3 := (hbs54 3 rfl).trans (sl_base hN17 rfl s17_3)
   have s54_5 := (hbs54 5 rfl).trans (sl_hit hN17 rfl)
   have s54_9 := (hbs54 9 rfl).trans (sl_base hN17 rfl s17_9)
   have s54_10 := (hbs54 10 rfl).trans (sl_base hN17 rfl s17_10)
   have s54_11 := (hbs54 11 rfl).trans (sl_base hN17 rfl s17_11)
   have s54_20 : Sl a54 20 v44 := (Option.some.inj ((hph54 5 _ 20 rfl rfl).1 rfl)).symm
   refine split_end ?_
   refine from_seq (tl := [_, _]) (by decide) (by kernel_rfl) rfl ?_
   refine op_field fld55_2 (ev_base hN54 rfl s54_5) ?_
   have hB29_old := hB29
   refine op_store (vs := [v44]) (cs' := [(Value.string (bs (D.getD i default).t.nm)), v38, v44]) size53 (ev_hit hN54 rfl) (ev_base hN54 rfl s54_20) hO44.cl rfl (by simp only [List.all_cons, List.all_nil, Bool.true_and, Bool.and_true, hO44.one]; try rfl) hB29 (Nat.le_of_ble_eq_true rfl) rfl ?_
   intro w57 hB29 E58
   have z_w57 := E58.size
   have hR := hR.keep E58 (fun k hk => .inr (by simp at hk; omega))
   have hT := hT.keep E58 (fun k hk => .inr (by simp at hk; omega))
   have hB5 := hB5.keep E58 (fun hh => hB5.ne hB29_old (by decide) (Option.some.inj hh))
   have hB9 := hB9.keep E58 (fun hh => hB9.ne hB29_old (by decide) (Option.some.inj hh))
   have hxt := hxt.keep E58 (fun hh => hxt.ne hB29_old (by decide) (Option.some.inj hh))
   have hS := hS.keepG (Gr.of E58) (Dj.one dj30)
   have hO18 := hO18.keep E58 (.inr ne_b27_lv)
   have hO38 := hO38.keepX hB29_old E58 (by decide)
   have hO44 := hO44.keepX hB29_old E58 (by decide)
   have hb := below_step1 hb E58 hb.size (by omega)
   refine reg_nil (hK35 _ _ (one_reg (op_field fld39_0 (ev_base hN54 rfl s54_3) (op_load1 (v := lv) one36 (ev_hit hN54 rfl) (hxt.cell rfl) (op_loadA (cs := [(Value.string (bs (D.getD i default).t.nm)), v38, v44]) agg55 rfl (ev_base hN54 rfl s54_5) (fun j u hu => by rw [Nat.zero_add]; exact hB29.cell hu) ?_)))))
   refine op_bslice (e := 55) (pv := [(0, (Value.agg #[(Value.string (bs (D.getD i default).t.nm)), v38, v44]))]) (cs := [(Value.string (bs (D.getD i default).t.nm)), v38, v44]) ⟨rfl, (ev_hit hN54 rfl), trivial⟩ (by obtain ⟨_, _, _, rfl⟩ := hO38.sl; obtain ⟨_, _, _, rfl⟩ := hO44.sl; kernel_rfl) ?_
   intro w59 b60 lo_b60 hi_b60 hB62 E61
   have z_w59 := E61.size
   have hR := hR.keep0 E61
   have hT := hT.keep0 E61
   have hB5 := hB5.keep0 E61
   have hB9 := hB9.keep0 E61
   have hxt := hxt.keep0 E61
   have hS := hS.kz E61
   have hO18 := hO18.keep0 E61
   have hO38 := hO38.keep0 E61
   have hO44 := hO44.keep0 E61
   have hb := below_step0 hb E61 hb.size
   have hP69 := hO18
   refine op_append slt36 (ev_hit hN54 rfl) hP69 (ev_hit hN54 rfl) (Src.ofRd Try.underlying36 (by decide) (RdC.ofBx (sz := 3) (n := 1) hB62 rfl (by decide)) (by simp only [List.all_cons, List.all_nil, Bool.true_and, Bool.and_true, hO38.one, hO44.one]; try rfl)) (by unfold maxLen; omega) (by omega) hb.size ?_
   intro v64 w65 hO67 E66 hm68
   have z_w65 := E66.size
   have hR := hR.keepO hP69 E66 (by omega)
   have hT := hT.keepO hP69 E66 (by omega)
   have hB5 := hB5.keepO hP69 E66 (by decide)
   have hB9 := hB9.keepO hP69 E66 (by decide)
   have hxt := hxt.keepO hP69 E66 (by decide)
   have hS := hS.keepG (Gr.of E66) (hS.notOwn hP69 (by decide) (by decide)).symm
   have hO38 := hO38.keepT hP69 E66 (by decide)
   have hO44 := hO44.keepT hP69 E66 (by decide)
   have hb := below_stepO hb hP69 E66 hb.size (by omega)
   have hO67 : Own w65 w.heap.size 55 3 v64 (D2 ++ [(DTab.mk (D.getD i default).t v38 v44)]).length (((D2 ++ [(DTab.mk (D.getD i default).t v38 v44)])).flatMap cellsT) := by exact hO67.cast (by simp) (by simp [cellsT])
   refine op_field fld39_0 (ev_base hN54 rfl s54_3) ?_
   have hxt_old := hxt
   refine op_store (vs := [v64]) (cs' := [v64, (Value.slice none 0 0)]) size36 (ev_hit hN54 rfl) (ev_hit hN54 rfl) hO67.cl rfl (by simp only [List.all_cons, List.all_nil, Bool.true_and, Bool.and_true, hO67.one]; try rfl) hxt (Nat.le_of_ble_eq_true rfl) rfl ?_
   intro w73 hxt E74
   have z_w73 := E74.size
   have hR := hR.keep E74 (fun k hk => .inr (by simp at hk; omega))
   have hT := hT.keep E74 (fun k hk => .inr (by simp at hk; omega))
   have hB5 := hB5.keep E74 (by simp; omega)
   have hB9 := hB9.keep E74 (by simp; omega)
   have hS := hS.keepG (Gr.of E74) (Dj.one (hS.notBx hxt_old (by decide) (by decide)))
   have hO38 := hO38.keepX hxt_old E74 (by decide)
   have hO44 := hO44.keepX hxt_old E74 (by decide)
   have hO67 := hO67.keepX hxt_old E74 (by decide)
   have hb := below_step1 hb E74 hb.size (by omega)
   refine reg_nil (hK21 _ _ (one_reg (op_add (ev_base hN54 rfl s54_11) rfl (add64 (by omega)) ?_)))
   refine op_move (ev_hit hN54 rfl) (reg_nil ?_)
   -- round 12T
   exact loop_next _ hN54 hd54 ⟨(i + 1), v64, (D2 ++ [(DTab.mk (D.getD i default).t v38 v44)]), _, rfl, (sl_base hN54 rfl s54_1), (sl_base hN54 rfl s54_2), (sl_base hN54 rfl s54_3), (sl_base hN54 rfl s54_9), (sl_base hN54 rfl s54_10), (sl_hit hN54 rfl).trans (congrArg (Value.int .i64) (by omega)), (by omega), (by simp; omega), (by rw [List.map_append, hM, take_map_snoc _ (by omega)]; rfl), hb, (by omega), hR, hT, hB5, hB9, hxt, (hS.snoc (d := (DTab.mk (D.getD i default).t v38 v44)) hO38 hO44), (hO67.cast (by simp) rfl)⟩ (by omega)
 ·
  refine reg_nil (hK19 _ _ (seq_any fun K75 hK75 => wp_cond_false (ev_hit hN17 rfl) (wp_exit (then_exit (then_exit (blk_hit ?_))))))
  refine hK15 _ _ (seq_any fun K76 hK76 => seq_any fun K77 hK77 => one_reg (op_field fld39_1 (ev_base hN17 rfl s17_1) (op_load1 (v := (Value.slice none 0 0)) one37 (ev_hit hN17 rfl) (hB5.cell rfl) (op_len_rd Try.underlying37 (ev_hit hN17 rfl) (RdC.nil _ 0 0 1) ?_))))
  refine op_move rfl (reg_nil (hK77 _ _ (wp_block ?_)))
  refine wp_loop_rounds 1 ?_
  refine rounds_any fun K78 hK78 => ?_
  refine seq_any fun K79 hK79 => ?_
  refine one_reg (op_bin (v := .bool false) (ev_hit hN17 rfl) (ev_hit hN17 rfl) (by rw [binOp_lss]; rfl) (reg_nil (hK79 _ _ (seq_any fun K80 hK80 => wp_cond_false (ev_hit hN17 rfl) (wp_exit (then_exit (then_exit (blk_hit ?_))))))))
  refine hK76 _ _ (seq_any fun K81 hK81 => one_reg (op_loadA (cs := [lv, (Value.slice none 0 0)]) agg39 rfl (ev_base hN17 rfl s17_3) (fun j u hu => by rw [Nat.zero_add]; exact hxt.cell hu) ?_))
  have hB9_old := hB9
  refine op_store (vs := [lv, (Value.slice none 0 0)]) (cs' := [lv, (Value.slice none 0 0)]) size39 (ev_base hN17 rfl s17_2) (ev_hit hN17 rfl) rfl rfl (by simp only [List.all_cons, List.all_nil, Bool.true_and, Bool.and_true, hO18.one]; try rfl) hB9 (Nat.le_of_ble_eq_true rfl) rfl ?_
  intro w84 hB9 E85
  have z_w84 := E85.size
  have hS := hS.keepG (Gr.of E85) (Dj.one (hS.notBx hB9_old (by decide) (by decide)))
  have hO18 := hO18.keepX hB9_old E85 (by decide)
  have hb := below_step1 hb E85 hb.size (by omega)
  refine reg_nil (hK81 _ _ (wp_ret ?_))
  refine retN (rs := [.cell 2 39]) (vs := [(Value.agg #[lv, (Value.slice none 0 0)])]) rfl hd17 ⟨⟨_, (ev_base hN17 rfl s17_2), run_loadA (cs := [lv, (Value.slice none 0 0)]) agg39 rfl (fun j u hu => by rw [Nat.zero_add]; exact hB9.cell hu)⟩, trivial⟩ rfl ⟨_, rfl, ?_⟩
  exact ⟨hb, _, _, _, rfl, hO18, hS, by rw [hM, List.take_of_length_le (by omega)]⟩

end Go.Proofs.Ythflnkfghogaoaa

namespace Go.Gx
theorem dt_get {D D' : List DTab} (h : D'.map DTab.t = D.map DTab.t) (k : Nat) : (D'.getD k default).t = (D.getD k default).t := by
  have e : ∀ l : List DTab, (l.getD k default).t = (l.map DTab.t).getD k (default : DTab).t := fun l => by
    simp only [List.getD_eq_getElem?_getD, List.getElem?_map]; cases l[k]? <;> rfl
  rw [e, e, h]
theorem dt_len {D D' : List DTab} (h : D'.map DTab.t = D.map DTab.t) : D'.length = D.length := by have := congrArg List.length h; simpa using this
theorem tab_find (D : List DTab) (nm : List UInt8) : tabAt (D.map DTab.t) nm = (D.find? fun d => decide (d.t.nm = nm)).map DTab.t := by unfold tabAt; rw [List.find?_map]; rfl
theorem tab_none {D : List DTab} {nm : List UInt8} (h : (ixOf (fun d => decide (d.t.nm = nm)) D) < 0) : tabAt (D.map DTab.t) nm = none := by
  rcases ixOf_cases (fun d : DTab => decide (d.t.nm = nm)) D with ⟨_, h2⟩ | ⟨i, hi, _⟩
  · rw [tab_find, h2]; rfl
  · omega
theorem tab_some {D : List DTab} {nm : List UInt8} (h : ¬ (ixOf (fun d => decide (d.t.nm = nm)) D) < 0) : ∃ k : Nat, ixOf (fun d => decide (d.t.nm = nm)) D = k ∧ k < D.length ∧ (D.getD k default).t.nm = nm ∧ tabAt (D.map DTab.t) nm = some (D.getD k default).t := by
  rcases ixOf_cases (fun d : DTab => decide (d.t.nm = nm)) D with ⟨h1, _⟩ | ⟨i, hi, hl, hp, hf⟩
  · omega
  · exact ⟨i, hi, hl, by simpa using hp, by rw [tab_find, hf]; rfl⟩
theorem cols_snoc {x : List UInt8} {l : List PCol} {i : Nat} (h : i < l.length) : colsOf x (l.take (i + 1)) = colsOf x (l.take i) ++ [⟨0, x, (l.getD i default).nm⟩] := take_map_snoc _ h
theorem kinds_snoc {l : List PCol} {i : Nat} (h : i < l.length) : kindsOf (l.take (i + 1)) = kindsOf (l.take i) ++ [(l.getD i default).kind] := take_map_snoc _ h
theorem cols_len {x : List UInt8} {l : List PCol} : (colsOf x l).length = l.length := List.length_map _
theorem kinds_len {l : List PCol} : (kindsOf l).length = l.length := List.length_map _
theorem tab_mem {T : List PTab} {nm : List UInt8} {t : PTab} (h : tabAt T nm = some t) : t ∈ T := List.mem_of_find?_eq_some h
end Go.Gx
namespace Go.Gx
def joinC (T : List PTab) (f : StF) (C : List PItm) : List PItm := if f.join = [] then C else match tabAt T f.join with | some u => C ++ colsOf f.join u.cols | none => C
def joinK (T : List PTab) (f : StF) (K : List Int) : List Int := if f.join = [] then K else match tabAt T f.join with | some u => K ++ kindsOf u.cols | none => K
def joinE (T : List PTab) (f : StF) (C : List PItm) (K : List Int) : Int :=
  if f.join = [] then 0 else match tabAt T f.join with | none => 9 | some u => if f.join = f.tb then 12 else onE (C ++ colsOf f.join u.cols) (K ++ kindsOf u.cols) f.on
theorem joinE_0 {T : List PTab} {f : StF} {C : List PItm} {K : List Int} (h : f.join = []) : joinE T f C K = 0 ∧ joinC T f C = C ∧ joinK T f K = K := ⟨if_pos h, if_pos h, if_pos h⟩
theorem joinE_n {T : List PTab} {f : StF} {C : List PItm} {K : List Int} (h : ¬ f.join = []) (h2 : (tabAt T f.join).isSome = false) : joinE T f C K = 9 := by
  unfold joinE; rw [if_neg h]; cases hh : tabAt T f.join with
  | none => rfl
  | some u => rw [hh] at h2; cases h2
theorem joinE_s {T : List PTab} {f : StF} {C : List PItm} {K : List Int} {u : PTab} (h : ¬ f.join = []) (h2 : tabAt T f.join = some u) :
    joinE T f C K = (if f.join = f.tb then 12 else onE (C ++ colsOf f.join u.cols) (K ++ kindsOf u.cols) f.on) ∧ joinC T f C = C ++ colsOf f.join u.cols ∧ joinK T f K = K ++ kindsOf u.cols := by
  unfold joinE joinC joinK; rw [if_neg h, if_neg h, if_neg h, h2]; exact ⟨rfl, rfl, rfl⟩
theorem joinC_le {T : List PTab} {f : StF} {C : List PItm} {n : Nat} (h : ∀ t ∈ T, t.cols.length ≤ n) : (joinC T f C).length ≤ C.length + n := by
  unfold joinC; split
  · omega
  · cases hh : tabAt T f.join with
    | none => simp
    | some u => have := h u (tab_mem hh); simp [cols_len]; omega
theorem joinK_le {T : List PTab} {f : StF} {K : List Int} {n : Nat} (h : ∀ t ∈ T, t.cols.length ≤ n) : (joinK T f K).length ≤ K.length + n := by
  unfold joinK; split
  · omega
  · cases hh : tabAt T f.join with
    | none => simp
    | some u => have := h u (tab_mem hh); simp [kinds_len]; omega
theorem selsE_none {T : List PTab} {f : StF} (h : (tabAt T f.tb).isSome = false) : selsE T f = 9 := by
  unfold selsE; cases hh : tabAt T f.tb with
  | none => rfl
  | some u => rw [hh] at h; cases h
theorem selsE_some {T : List PTab} {f : StF} {t : PTab} (h : tabAt T f.tb = some t) : selsE T f = if joinE T f (colsOf f.tb t.cols) (kindsOf t.cols) ≠ 0 then joinE T f (colsOf f.tb t.cols) (kindsOf t.cols) else selE f (joinC T f (colsOf f.tb t.cols)) (joinK T f (kindsOf t.cols)) := by
  unfold selsE; rw [h]
  by_cases hj : f.join = []
  · obtain ⟨a, b, c⟩ := @joinE_0 T f (colsOf f.tb t.cols) (kindsOf t.cols) hj
    rw [a, b, c, if_neg (by simp)]
    simp only []; rw [if_pos hj]
  · cases hh : tabAt T f.join with
    | none => rw [joinE_n hj (by rw [hh]; rfl), if_pos (by decide)]; simp only []; rw [if_neg hj]
    | some u =>
      obtain ⟨a, b, c⟩ := @joinE_s T f (colsOf f.tb t.cols) (kindsOf t.cols) u hj hh
      rw [a, b, c]; simp only []; rw [if_neg hj]
      by_cases he : f.join = f.tb
      · rw [if_pos he, if_pos he, if_pos (by decide)]
      · rw [if_neg he, if_neg he]
theorem selE_1 {f : StF} {C : List PItm} {K : List Int} (h : firstE (f.items.map (itemE C K)) ≠ 0) : selE f C K = firstE (f.items.map (itemE C K)) := if_pos h
theorem selE_2 {f : StF} {C : List PItm} {K : List Int} (h : firstE (f.items.map (itemE C K)) = 0) (h2 : 0 < aggsN f.items ∧ (aggsN f.items < f.items.length ∨ 0 < f.ord.length)) : selE f C K = 11 := by
  unfold selE; rw [if_neg (fun g => g h), if_pos h2]
theorem selE_3 {f : StF} {C : List PItm} {K : List Int} (h : firstE (f.items.map (itemE C K)) = 0) (h2 : ¬ (0 < aggsN f.items ∧ (aggsN f.items < f.items.length ∨ 0 < f.ord.length))) (h3 : whereX C K f.wh ≠ 0) : selE f C K = whereX C K f.wh := by
  unfold selE; rw [if_neg (fun g => g h), if_neg h2, if_pos h3]
theorem selE_4 {f : StF} {C : List PItm} {K : List Int} (h : firstE (f.items.map (itemE C K)) = 0) (h2 : ¬ (0 < aggsN f.items ∧ (aggsN f.items < f.items.length ∨ 0 < f.ord.length))) (h3 : whereX C K f.wh = 0) : selE f C K = firstE (f.ord.map fun e => (colAt C K e.tb e.nm).2) := by
  unfold selE; rw [if_neg (fun g => g h), if_neg h2, if_neg (fun g => g h3)]
theorem aggs_t {l : List PItm} {i : Nat} (h : i < l.length) (h2 : (l.getD i default).agg ≠ 0) : aggsN (l.take (i + 1)) = aggsN (l.take i) + 1 := by
  have : l.take (i + 1) = l.take i ++ [l.getD i default] := by simp [List.getD_eq_getElem?_getD, h]
  unfold aggsN; rw [this, List.countP_append]; simp only [List.countP_cons, List.countP_nil, decide_eq_true h2, if_true]
theorem aggs_f {l : List PItm} {i : Nat} (h : i < l.length) (h2 : (l.getD i default).agg = 0) : aggsN (l.take (i + 1)) = aggsN (l.take i) := by
  have : l.take (i + 1) = l.take i ++ [l.getD i default] := by simp [List.getD_eq_getElem?_getD, h]
  unfold aggsN; rw [this, List.countP_append]; simp only [List.countP_cons, List.countP_nil, h2]; simp
theorem aggs_le (l : List PItm) : aggsN l ≤ l.length := List.countP_le_length
end Go.Gx
namespace Go.Gx
theorem cols_t {E : List XE} (h : firstE (E.map fun e => if e.op = 2 ∧ e.args.length = 0 then (0 : Int) else 1) = 0) : colsOk E = true := by
  unfold colsOk; rw [List.all_eq_true]; intro e he
  have := firstE_all h _ (List.mem_map.2 ⟨e, he, rfl⟩)
  by_cases hc : e.op = 2 ∧ e.args.length = 0
  · simp [hc.1, hc.2]
  · rw [if_neg hc] at this; exact absurd this (by decide)
theorem cols_f {E : List XE} (h : ¬ firstE (E.map fun e => if e.op = 2 ∧ e.args.length = 0 then (0 : Int) else 1) = 0) : colsOk E = false := by
  rw [← Bool.not_eq_true]; intro hc; apply h
  unfold colsOk at hc; rw [List.all_eq_true] at hc
  refine firstE_zero fun x hx => ?_
  obtain ⟨e, he, rfl⟩ := List.mem_map.1 hx
  have := hc e he
  rw [Bool.and_eq_true, decide_eq_true_eq, decide_eq_true_eq] at this
  show (if _ then _ else _) = _
  rw [if_pos this]
end Go.Gx
namespace Go.Gx
theorem colIx_of (l : List PCol) (nm : List UInt8) : ixOf (fun d => decide (d.nm = nm)) l = colIx l nm := rfl
theorem colIx_lt {l : List PCol} {nm : List UInt8} (h : ¬ colIx l nm < 0) : (colIx l nm).toNat < l.length ∧ ((colIx l nm).toNat : Int) = colIx l nm := by
  rcases ixOf_cases (fun d : PCol => decide (d.nm = nm)) l with ⟨h1, _⟩ | ⟨i, hi, hl, _⟩
  · rw [colIx_of] at h1; omega
  · rw [colIx_of] at hi; omega
theorem updE_1 {t : PTab} {f : StF} (h : colIx t.cols f.nm < 0) : updE t f = 10 := if_pos h
theorem updE_2 {t : PTab} {f : StF} (h : ¬ colIx t.cols f.nm < 0) (h2 : colIx t.cols f.nm = 0 ∨ (t.cols.getD (colIx t.cols f.nm).toNat default).ref ≠ []) : updE t f = 24 := by unfold updE; rw [if_neg h, if_pos h2]
theorem updE_3 {t : PTab} {f : StF} (h : ¬ colIx t.cols f.nm < 0) (h2 : ¬ (colIx t.cols f.nm = 0 ∨ (t.cols.getD (colIx t.cols f.nm).toNat default).ref ≠ [])) (h3 : mustX (colsOf f.tb t.cols) (kindsOf t.cols) (f.vals.getD 0 default) (t.cols.getD (colIx t.cols f.nm).toNat default).kind ≠ 0) :
    updE t f = mustX (colsOf f.tb t.cols) (kindsOf t.cols) (f.vals.getD 0 default) (t.cols.getD (colIx t.cols f.nm).toNat default).kind := by unfold updE; rw [if_neg h, if_neg h2, if_pos h3]
theorem updE_4 {t : PTab} {f : StF} (h : ¬ colIx t.cols f.nm < 0) (h2 : ¬ (colIx t.cols f.nm = 0 ∨ (t.cols.getD (colIx t.cols f.nm).toNat default).ref ≠ [])) (h3 : mustX (colsOf f.tb t.cols) (kindsOf t.cols) (f.vals.getD 0 default) (t.cols.getD (colIx t.cols f.nm).toNat default).kind = 0) :
    updE t f = whereX (colsOf f.tb t.cols) (kindsOf t.cols) f.wh := by unfold updE; rw [if_neg h, if_neg h2, if_neg (fun g => g h3)]
theorem range_map_take {α : Type} [Inhabited α] (g : Nat → α) (n i : Nat) (h : i < n) : (((List.range n).map g).getD i default) = g i := by simp [List.getD_eq_getElem?_getD, h]
def insL (E : List XE) (l : List PCol) : List Int := (List.range E.length).map fun i => mustX [] [] (E.getD i default) (l.getD i default).kind
theorem insL_len {E : List XE} {l : List PCol} : (insL E l).length = E.length := by simp [insL]
theorem insL_at {E : List XE} {l : List PCol} {i : Nat} (h : i < E.length) : (insL E l).getD i 0 = mustX [] [] (E.getD i default) (l.getD i default).kind := range_map_take (α := Int) _ _ _ h
theorem insL_hit {E : List XE} {l : List PCol} {i : Nat} (h : i < E.length) (h2 : ∀ j, j < i → (insL E l).getD j 0 = 0) (h3 : mustX [] [] (E.getD i default) (l.getD i default).kind ≠ 0) : firstE (insL E l) = mustX [] [] (E.getD i default) (l.getD i default).kind := by
  rw [firstE_at (i := i) (by rw [insL_len]; exact h) h2 (by rw [insL_at h]; exact h3), insL_at h]
theorem insL_none {E : List XE} {l : List PCol} {i : Nat} (h : E.length ≤ i) (h2 : ∀ j, j < i → (insL E l).getD j 0 = 0) : firstE (insL E l) = 0 := by
  refine firstE_zero fun x hx => ?_
  obtain ⟨j, hj, rfl⟩ := List.mem_iff_getElem.1 hx
  have := h2 j (by rw [insL_len] at hj; omega)
  simpa [List.getD_eq_getElem?_getD, hj] using this
end Go.Gx

namespace Go.Proofs.Ythflnkfghogaoaa
open Go.Gx Go.RowKit
attribute [local irreducible] wpList wpStill Code.wp Calls

theorem Table_ret (tv : Value) (D : List DTab) (x : List UInt8) (w : World) (hT : TsRd w w.heap.size tv D) (hD : D.length ≤ 1000000) (hsz : ∀ d ∈ D, d.t.cols.length ≤ 1000000 ∧ d.t.idx.length ≤ 1000000) : Ret Try.prog 57 #[(Value.agg #[tv, (Value.slice none 0 0)]), (Value.string (bs x))] w (fun v' w' => Below w.heap.size w w' ∧ ((tabAt (D.map DTab.t) x = none ∧ v' = .tuple #[.agg #[.string (bs []), .slice none 0 0, .slice none 0 0], .bool false]) ∨ (∃ d : DTab, tabAt (D.map DTab.t) x = some d.t ∧ v' = .tuple #[.agg #[.string (bs d.t.nm), d.cv, d.iv], .bool true] ∧ Own w' w.heap.size 68 3 d.cv d.t.cols.length (d.t.cols.flatMap cellsC) ∧ Own w' w.heap.size 9 1 d.iv d.t.idx.length (d.t.idx.map sv)))) := by
 have hR := hT.1
 have hb := Below.refl w.heap.size w
 refine enter (N := 20) Try.func57 rfl rfl (by simp) fun a0 hN hd hA => ?_
 have s0 : a0.tmps.getD 0 undef = (Value.agg #[tv, (Value.slice none 0 0)]) := hA 0 (by simp)
 have s1 : a0.tmps.getD 1 undef = (Value.string (bs x)) := hA 1 (by simp)
 clear hA
 refine seq_any fun K1 hK1 => one_reg (op_box (cs := [tv, (Value.slice none 0 0)]) (ev_base hN rfl s0) rfl ?_)
 intro w2 b3 lo_b3 hi_b3 hB5 E4
 have z_w2 := E4.size
 have hR := hR.keep0 E4
 have hT := hT.keep0 E4
 have hb := below_step0 hb E4 hb.size
 refine op_alloc (cs := [(Value.string (bs [])), (Value.slice none 0 0), (Value.slice none 0 0)]) zero55 rfl ?_
 intro w6 b7 lo_b7 hi_b7 hB9 E8
 have z_w6 := E8.size
 have hR := hR.keep0 E8
 have hT := hT.keep0 E8
 have hB5 := hB5.keep0 E8
 have hb := below_step0 hb E8 hb.size
 refine op_assign rfl (reg_nil ?_)
 refine hK1 _ _ (seq_any fun K10 hK10 => one_reg (op_field fld39_0 (ev_hit hN rfl) (op_load1 (v := tv) one36 (ev_hit hN rfl) (hB5.cell rfl) (op_move (ev_base hN rfl s1) (op_fn (vs := [tv, (Value.string (bs x)), (Value.func (.func 85) #[] #[])]) ok84 ⟨(ev_hit hN rfl), ⟨(ev_hit hN rfl), ⟨rfl, trivial⟩⟩⟩ (findTable (L := (D : List DTab)) x (hR.mono (Nat.zero_le _) (by omega))) ?_)))))
 rintro _ w11 ⟨E12, rfl⟩
 have E12 := grown_of_below E12
 have z_w11 := E12.size
 have hT := hT.keep0 E12
 have hB5 := hB5.keep0 E12
 have hB9 := hB9.keep0 E12
 have hb := below_step0 hb E12 hb.size
 refine op_assign (ev_hit hN rfl) (reg_nil (hK10 _ _ (seq_any fun K13 hK13 => seq_any fun K14 hK14 => ?_)))
 refine one_reg (op_move (ev_hit hN rfl) (op_lss (ev_hit hN rfl) rfl (fun c12 => ?_) (fun c12 => ?_)))
 ·
  refine reg_nil (hK14 _ _ (wp_cond_true (ev_hit hN rfl) (seq_any fun K15 hK15 => one_reg (op_build (pv := []) (v := (Value.agg #[(Value.string (bs [])), (Value.slice none 0 0), (Value.slice none 0 0)])) trivial (by kernel_rfl) ?_))))
  refine op_store (vs := [(Value.string (bs [])), (Value.slice none 0 0), (Value.slice none 0 0)]) (cs' := [(Value.string (bs [])), (Value.slice none 0 0), (Value.slice none 0 0)]) size55 (ev_hit hN rfl) (ev_hit hN rfl) rfl rfl rfl hB9 (Nat.le_of_ble_eq_true rfl) rfl ?_
  intro w18 hB9 E19
  have z_w18 := E19.size
  have hb := below_step1 hb E19 hb.size (by omega)
  refine op_assign rfl (reg_nil (hK15 _ _ (wp_ret (then_ret ( ?_)))))
  refine retN (rs := [.cell 4 55, .tmp 5]) (vs := [(Value.agg #[(Value.string (bs [])), (Value.slice none 0 0), (Value.slice none 0 0)]), (Value.bool false)]) rfl hd ⟨⟨_, (ev_hit hN rfl), run_loadA (cs := [(Value.string (bs [])), (Value.slice none 0 0), (Value.slice none 0 0)]) agg55 rfl (fun j u hu => by rw [Nat.zero_add]; exact hB9.cell hu)⟩, ⟨(ev_hit hN rfl), trivial⟩⟩ rfl ⟨_, rfl, ?_⟩
  exact ⟨hb, .inl ⟨tab_none c12, rfl⟩⟩
 ·
  refine reg_nil (hK14 _ _ (wp_cond_false (ev_hit hN rfl) (wp_skip (hK13 _ _ (seq_any fun K20 hK20 => one_reg ?_)))))
  obtain ⟨k9, hk9, hkl, hkn, hkt⟩ := tab_some c12
  refine op_loadA (cs := [tv, (Value.slice none 0 0)]) agg39 rfl (ev_hit hN rfl) (fun j u hu => by rw [Nat.zero_add]; exact hB5.cell hu) ?_
  refine op_fn (vs := [(Value.agg #[tv, (Value.slice none 0 0)])]) ok60 ⟨(ev_hit hN rfl), trivial⟩ (twin0_ret _ _ _ (hT.mono (by omega)) hD hsz) ?_
  rintro _ w22 ⟨E23, tv21, D21, F21, rfl, hO21, hS21, hM21⟩
  have lo_F21 : ∀ x, F21 x → w11.heap.size ≤ x := fun x hx => (hS21.lt x hx).1
  have dj25 : ¬ F21 b7 := fun hf => by have := lo_F21 _ hf; have := hB9.lt; omega
  have E23 := grown_of_below E23
  have z_w22 := E23.size
  have hB9 := hB9.keep0 E23
  have hb := below_step0 hb E23 hb.size
  have hO21 := hO21.mono (base' := w.heap.size) (by omega)
  have hS21 : TabsR w22 w.heap.size D21 F21 := hS21.mono (by omega)
  have hDl := dt_len hM21
  have hDt := dt_get hM21 k9
  refine op_fieldv (v := tv21) (ev_hit hN rfl) (by obtain ⟨_, _, _, rfl⟩ := hO21.sl; kernel_rfl) ?_
  refine op_move (ev_hit hN rfl) (op_index_rd slt36 (ev_hit hN rfl) hO21.rdw (ev_hit hN rfl) (by omega) (by omega) ?_)
  intro b26 o27 h0b26 h1b26 hc28
  refine op_loadA (cs := [(Value.string (bs (D21.getD k9 default).t.nm)), (D21.getD k9 default).cv, (D21.getD k9 default).iv]) agg55 rfl (ev_hit hN rfl) (fun j u hu => hc28 j u (by have := (List.getElem?_eq_some_iff.1 hu).1; simpa using this) ((el_dt (i := k9) (by omega) (by omega)) j u hu)) ?_
  refine op_store (vs := [(Value.string (bs (D21.getD k9 default).t.nm)), (D21.getD k9 default).cv, (D21.getD k9 default).iv]) (cs' := [(Value.string (bs (D21.getD k9 default).t.nm)), (D21.getD k9 default).cv, (D21.getD k9 default).iv]) size55 (ev_hit hN rfl) (ev_hit hN rfl) rfl rfl (by simp only [List.all_cons, List.all_nil, Bool.true_and, Bool.and_true, (hS21.1 (D21.getD k9 default) (getD_mem (by omega))).1.one, (hS21.1 (D21.getD k9 default) (getD_mem (by omega))).2.one]; try rfl) hB9 (Nat.le_of_ble_eq_true rfl) rfl ?_
  intro w31 hB9 E32
  have z_w31 := E32.size
  have hS21 := hS21.keepG (Gr.of E32) (Dj.one dj25)
  have hb := below_step1 hb E32 hb.size (by omega)
  refine op_assign rfl (reg_nil (hK20 _ _ (wp_ret ?_)))
  refine retN (rs := [.cell 4 55, .tmp 5]) (vs := [(Value.agg #[(Value.string (bs (D21.getD k9 default).t.nm)), (D21.getD k9 default).cv, (D21.getD k9 default).iv]), (Value.bool true)]) rfl hd ⟨⟨_, (ev_hit hN rfl), run_loadA (cs := [(Value.string (bs (D21.getD k9 default).t.nm)), (D21.getD k9 default).cv, (D21.getD k9 default).iv]) agg55 rfl (fun j u hu => by rw [Nat.zero_add]; exact hB9.cell hu)⟩, ⟨(ev_hit hN rfl), trivial⟩⟩ rfl ⟨_, rfl, ?_⟩
  have ho9 := hS21.1 (D21.getD k9 default) (getD_mem (by omega))
  exact ⟨hb, .inr ⟨_, by rw [hkt, hDt], rfl, ho9.1, ho9.2⟩⟩

theorem TableT {tv : Value} {D : List DTab} {x : List UInt8} {w : World} (hk : (tabAt (D.map DTab.t) x).isSome = true) (hT : TsRd w w.heap.size tv D) (hD : D.length ≤ 1000000) (hsz : ∀ d ∈ D, d.t.cols.length ≤ 1000000 ∧ d.t.idx.length ≤ 1000000) : Ret Try.prog 57 #[.agg #[tv, .slice none 0 0], .string (bs x)] w (fun v' w' => Below w.heap.size w w' ∧ ∃ d : DTab, v' = .tuple #[.agg #[.string (bs d.t.nm), d.cv, d.iv], .bool true] ∧ tabAt (D.map DTab.t) x = some d.t ∧ Own w' w.heap.size 68 3 d.cv d.t.cols.length (d.t.cols.flatMap cellsC) ∧ Own w' w.heap.size 9 1 d.iv d.t.idx.length (d.t.idx.map sv)) :=
  (Table_ret tv D x w hT hD hsz).mono fun v' w' h => ⟨h.1, h.2.elim (fun q => by rw [q.1] at hk; cases hk) fun ⟨d, h1, h2, h3⟩ => ⟨d, h2, h1, h3⟩⟩
theorem TableF {tv : Value} {D : List DTab} {x : List UInt8} {w : World} (hk : (tabAt (D.map DTab.t) x).isSome = false) (hT : TsRd w w.heap.size tv D) (hD : D.length ≤ 1000000) (hsz : ∀ d ∈ D, d.t.cols.length ≤ 1000000 ∧ d.t.idx.length ≤ 1000000) : Ret Try.prog 57 #[.agg #[tv, .slice none 0 0], .string (bs x)] w (fun v' w' => Below w.heap.size w w' ∧ v' = .tuple #[.agg #[.string (bs []), .slice none 0 0, .slice none 0 0], .bool false]) :=
  (Table_ret tv D x w hT hD hsz).mono fun v' w' h => ⟨h.1, h.2.elim (fun q => q.2) fun ⟨d, h1, _⟩ => by rw [h1] at hk; cases hk⟩
end Go.Proofs.Ythflnkfghogaoaa

namespace Go.Gx
theorem at_pre9 {pre mid suf : List Value} {j : Nat} {u : Value} (h : mid[j]? = some u) : (pre ++ mid ++ suf)[pre.length + j]? = some u := by
  have hj := (List.getElem?_eq_some_iff.1 h).1
  rw [List.append_assoc, List.getElem?_append_right (by omega), Nat.add_sub_cancel_left, List.getElem?_append_left hj]; exact h
theorem inF_step {F : Nat → Prop} {v v2 : Value} {n n2 : Nat} (hm : v2.ownBlock = v.ownBlock ∨ ∀ k, v2.ownBlock = some k → n2 ≤ k) (hn : n ≤ n2) (h : ∀ k, k < n → Bl v k → F k) : ∀ k, k < n → Bl v2 k → F k := fun k hk hb => by
  rcases hm with hm | hm
  · exact h k hk (hm.symm.trans hb)
  · have := hm k hb; omega
end Go.Gx

namespace Go.Proofs.Ythflnkfghogaoaa
open Go.Gx Go.RowKit
attribute [local irreducible] wpList wpStill Code.wp Calls

theorem lookTable {tv : Value} {D : List DTab} {C : List PItm} {K : List Int} {cv kv : Value} {l B : Nat} (x : List UInt8) {w : World} (hT : TsRd w B tv D) (hD : D.length ≤ 1000000) (hsz : ∀ d ∈ D, d.t.cols.length ≤ 1000000 ∧ d.t.idx.length ≤ 1000000) (hB : B ≤ w.heap.size) (hlB : B ≤ l) (hx : Bx w l 92 [tv, .slice none 0 0, cv, kv]) (O : Own w B 63 3 cv C.length (C.flatMap cellsI)) (P : Own w B 3 1 kv K.length (K.map (Value.int .i64))) (hCl : C.length ≤ 1000000000) (hKl : K.length ≤ 1000000000) : Ret Try.prog 45 #[(ptr l 0), (Value.string (bs x))] w (fun v' w' => Gr w w' (fun y => y = l ∨ Bl cv y ∨ Bl kv y) ∧ ∃ cv' kv' C' K', Bx w' l 92 [tv, .slice none 0 0, cv', kv'] ∧ Own w' B 63 3 cv' C'.length (C'.flatMap cellsI) ∧ Own w' B 3 1 kv' K'.length (K'.map (Value.int .i64)) ∧ (∀ k, k < w.heap.size → Bl cv' k → k = l ∨ Bl cv k ∨ Bl kv k) ∧ (∀ k, k < w.heap.size → Bl kv' k → k = l ∨ Bl cv k ∨ Bl kv k) ∧ (((tabAt (D.map DTab.t) x).isSome = false ∧ C' = C ∧ K' = K ∧ v' = .tuple #[.agg #[.string (bs []), .slice none 0 0, .slice none 0 0], .int .i64 9]) ∨ ∃ d : DTab, tabAt (D.map DTab.t) x = some d.t ∧ C' = C ++ colsOf x d.t.cols ∧ K' = K ++ kindsOf d.t.cols ∧ v' = .tuple #[.agg #[.string (bs d.t.nm), d.cv, d.iv], .int .i64 0] ∧ Own w' w.heap.size 68 3 d.cv d.t.cols.length (d.t.cols.flatMap cellsC) ∧ Own w' w.heap.size 9 1 d.iv d.t.idx.length (d.t.idx.map sv))) := by
 have hR := hT.1
 have hi_l := hx.lt
 have hsz9 : ∀ t ∈ D.map DTab.t, t.cols.length ≤ 1000000 ∧ t.idx.length ≤ 1000000 := fun t ht => by obtain ⟨d, hd, rfl⟩ := List.mem_map.1 ht; exact hsz d hd
 have hb := Gr.refl w (fun y => y = l ∨ Bl cv y ∨ Bl kv y)
 refine enter (N := 55) Try.func45 rfl rfl (by simp) fun a0 hN hd hA => ?_
 have s0 : a0.tmps.getD 0 undef = (ptr l 0) := hA 0 (by simp)
 have s1 : a0.tmps.getD 1 undef = (Value.string (bs x)) := hA 1 (by simp)
 clear hA
 refine seq_any fun K1 hK1 => one_reg (op_alloc (cs := [(Value.string (bs [])), (Value.slice none 0 0), (Value.slice none 0 0)]) zero55 rfl ?_)
 intro w2 b3 lo_b3 hi_b3 hB5 E4
 have z_w2 := E4.size
 have hx := hx.keep0 E4
 have O := O.keep0 E4
 have P := P.keep0 E4
 have hR := hR.keep0 E4
 have hT := hT.keep0 E4
 have hb := hb.step0 E4
 refine op_assign rfl (reg_nil ?_)
 refine hK1 _ _ (seq_any fun K6 hK6 => one_reg (op_move (ev_base hN rfl s0) (op_nil (ev_hit hN rfl) (op_field fld92_0 (ev_hit hN rfl) (op_loadA (cs := [tv, (Value.slice none 0 0)]) agg39 rfl (ev_hit hN rfl) (fun j u hu => hx.cell (at_pre9 (pre := []) (suf := [cv, kv]) hu)) ?_)))))
 refine op_move (ev_base hN rfl s1) ?_
 rcases Bool.eq_false_or_eq_true ((tabAt (D.map DTab.t) x).isSome) with k16 | k16
 ·
  refine op_fn (vs := [(Value.agg #[tv, (Value.slice none 0 0)]), (Value.string (bs x))]) ok57 ⟨(ev_hit hN rfl), ⟨(ev_hit hN rfl), trivial⟩⟩ (TableT k16 (hT.mono (by omega)) hD hsz) ?_
  rintro _ w8 ⟨E9, d7, rfl, ht7, hO7, hP7⟩
  have E9 := grown_of_below E9
  have z_w8 := E9.size
  have hx := hx.keep0 E9
  have O := O.keep0 E9
  have P := P.keep0 E9
  have hR := hR.keep0 E9
  have hT := hT.keep0 E9
  have hB5 := hB5.keep0 E9
  have hb := hb.step0 E9
  have hO7 := hO7.mono (base' := w.heap.size) (by omega)
  have hP7 := hP7.mono (base' := w.heap.size) (by omega)
  refine op_move (ev_hit hN rfl) (op_extract (ev_hit hN rfl) rfl ?_)
  refine op_extract (ev_hit hN rfl) rfl ?_
  refine op_alloc (cs := [(Value.string (bs [])), (Value.slice none 0 0), (Value.slice none 0 0)]) zero55 rfl ?_
  intro w10 b11 lo_b11 hi_b11 hB13 E12
  have z_w10 := E12.size
  have hx := hx.keep0 E12
  have O := O.keep0 E12
  have P := P.keep0 E12
  have hR := hR.keep0 E12
  have hT := hT.keep0 E12
  have hB5 := hB5.keep0 E12
  have hO7 := hO7.keep0 E12
  have hP7 := hP7.keep0 E12
  have hb := hb.step0 E12
  have hB13_old := hB13
  refine op_store (vs := [(Value.string (bs d7.t.nm)), d7.cv, d7.iv]) (cs' := [(Value.string (bs d7.t.nm)), d7.cv, d7.iv]) size55 (ev_hit hN rfl) (ev_hit hN rfl) rfl rfl (by simp only [List.all_cons, List.all_nil, Bool.true_and, Bool.and_true, hO7.one, hP7.one]; try rfl) hB13 (Nat.le_of_ble_eq_true rfl) rfl ?_
  intro w16 hB13 E17
  have z_w16 := E17.size
  have hx := hx.keep E17 (fun hh => hx.ne hB13_old (by decide) (Option.some.inj hh))
  have O := O.keepX hB13_old E17 (by decide)
  have P := P.keepX hB13_old E17 (by decide)
  have hR := hR.keep E17 (fun k hk => .inr (by simp at hk; omega))
  have hT := hT.keep E17 (fun k hk => .inr (by simp at hk; omega))
  have hB5 := hB5.keep E17 (by simp; omega)
  have hO7 := hO7.keepX hB13_old E17 (by decide)
  have hP7 := hP7.keepX hB13_old E17 (by decide)
  have hb := hb.step1 E17 (by omega)
  refine op_assign (ev_hit hN rfl) ?_
  refine reg_nil (hK6 _ _ (seq_any fun K18 hK18 => seq_any fun K19 hK19 => one_reg (op_move (ev_hit hN rfl) (op_not (ev_hit hN rfl) ?_))))
  refine reg_nil (hK19 _ _ (wp_cond_false (ev_hit hN rfl) (wp_skip ?_)))
  refine hK18 _ _ (seq_any fun K20 hK20 => seq_any fun K21 hK21 => one_reg (op_field fld55_1 (ev_hit hN rfl) (op_load1 (v := d7.cv) one41 (ev_hit hN rfl) (hB13.cell rfl) (op_len_rd Try.underlying41 (ev_hit hN rfl) hO7.rdw ?_))))
  refine op_move rfl (reg_nil (hK21 _ _ (wp_block ?_)))
  refine loop_m (fun mz_ az_ w' => ∃ (i : Nat) (cv2 kv2 : Value), mz_ = d7.t.cols.length - i ∧ (az_.tmps.getD 0 undef = (ptr l 0)) ∧ (az_.tmps.getD 1 undef = (Value.string (bs x))) ∧ (az_.tmps.getD 4 undef = (ptr b3 0)) ∧ (az_.tmps.getD 5 undef = (Value.int .i64 0)) ∧ (az_.tmps.getD 6 undef = (ptr b11 0)) ∧ (az_.tmps.getD 23 undef = d7.cv) ∧ (az_.tmps.getD 24 undef = (Value.int .i64 ((d7.t.cols.length : Nat) : Int))) ∧ (az_.tmps.getD 25 undef = (Value.int .i64 ((i : Nat) : Int))) ∧ (i ≤ d7.t.cols.length) ∧ (∀ k, k < w.heap.size → Bl cv2 k → k = l ∨ Bl cv k ∨ Bl kv k) ∧ (∀ k, k < w.heap.size → Bl kv2 k → k = l ∨ Bl cv k ∨ Bl kv k) ∧ (Gr w w' (fun y => y = l ∨ Bl cv y ∨ Bl kv y)) ∧ (w16.heap.size ≤ w'.heap.size) ∧ (RdC w' 0 B 3 tv D.length (D.flatMap cellsT)) ∧ (TsRd w' B tv D) ∧ (Bx w' b3 55 [(Value.string (bs [])), (Value.slice none 0 0), (Value.slice none 0 0)]) ∧ (Own w' w.heap.size 68 3 d7.cv d7.t.cols.length (d7.t.cols.flatMap cellsC)) ∧ (Own w' w.heap.size 9 1 d7.iv d7.t.idx.length (d7.t.idx.map sv)) ∧ (Bx w' b11 55 [(Value.string (bs d7.t.nm)), d7.cv, d7.iv]) ∧ (Bx w' l 92 [tv, (Value.slice none 0 0), cv2, kv2]) ∧ (Own w' B 63 3 cv2 (C ++ colsOf x (d7.t.cols.take i)).length ((C ++ colsOf x (d7.t.cols.take i)).flatMap cellsI)) ∧ (Own w' B 3 1 kv2 (K ++ kindsOf (d7.t.cols.take i)).length ((K ++ kindsOf (d7.t.cols.take i)).map (Value.int .i64)))) _ hN hd ⟨0, cv, kv, rfl, (sl_base hN rfl s0), (sl_base hN rfl s1), (sl_hit hN rfl), (sl_hit hN rfl), (sl_hit hN rfl), (sl_hit hN rfl), (sl_hit hN rfl), (sl_hit hN rfl), (Nat.zero_le _), (fun k _ h => .inr (.inl h)), (fun k _ h => .inr (.inr h)), hb, (Nat.le_refl _), hR, hT, hB5, hO7, hP7, hB13, hx, (O.cast (by simp [colsOf]) (by simp [colsOf])), (P.cast (by simp [kindsOf]) (by simp [kindsOf]))⟩ ?_
  rintro _ a22 w22 hN22 hd22 ⟨i, cv2, kv2, rfl, s22_0, s22_1, s22_4, s22_5, s22_6, s22_23, s22_24, s22_25, hi, hcF, hkF, hb, zl_w22, hR, hT, hB5, hO7, hP7, hB13, hxl, hO23, hO24⟩
  have z_w22 := hb.size
  refine seq_any fun K25 hK25 => ?_
  refine one_reg (op_lss (ev_base hN22 rfl s22_25) (ev_base hN22 rfl s22_24) (fun c26 => ?_) (fun c26 => ?_))
  ·
   refine reg_nil ?_
   refine hK25 _ _ (seq_any fun K26 hK26 => wp_cond_true (ev_hit hN22 rfl) (wp_skip (hK26 _ _ (seq_any fun K27 hK27 => wp_block ?_))))
   refine seq_any fun K28 hK28 => one_reg (op_index_rd slt41 (ev_base hN22 rfl s22_23) hO7.rdw (ev_base hN22 rfl s22_25) (by omega) (by omega) ?_)
   intro b29 o30 h0b29 h1b29 hc31
   refine op_loadA (cs := [(Value.string (bs (d7.t.cols.getD i default).nm)), (Value.int .i64 (d7.t.cols.getD i default).kind), (Value.string (bs (d7.t.cols.getD i default).ref))]) agg68 rfl (ev_hit hN22 rfl) (fun j u hu => hc31 j u (by have := (List.getElem?_eq_some_iff.1 hu).1; simpa using this) ((el_pc (i := i) (by omega) (by omega)) j u hu)) ?_
   refine op_alloc (cs := [(Value.string (bs [])), (Value.int .i64 0), (Value.string (bs []))]) zero68 rfl ?_
   intro w32 b33 lo_b33 hi_b33 hB35 E34
   have ne_b33_d7_cv : d7.cv.ownBlock ≠ some b33 := fun hh => by have := (hO7.lt _ hh).2; omega
   have z_w32 := E34.size
   have hR := hR.keep0 E34
   have hT := hT.keep0 E34
   have hB5 := hB5.keep0 E34
   have hO7 := hO7.keep0 E34
   have hP7 := hP7.keep0 E34
   have hB13 := hB13.keep0 E34
   have hxl := hxl.keep0 E34
   have hO23 := hO23.keep0 E34
   have hO24 := hO24.keep0 E34
   have hb := hb.step0 E34
   have hB35_old := hB35
   refine op_store (vs := [(Value.string (bs (d7.t.cols.getD i default).nm)), (Value.int .i64 (d7.t.cols.getD i default).kind), (Value.string (bs (d7.t.cols.getD i default).ref))]) (cs' := [(Value.string (bs (d7.t.cols.getD i default).nm)), (Value.int .i64 (d7.t.cols.getD i default).kind), (Value.string (bs (d7.t.cols.getD i default).ref))]) size68 (ev_hit hN22 rfl) (ev_hit hN22 rfl) rfl rfl rfl hB35 (Nat.le_of_ble_eq_true rfl) rfl ?_
   intro w38 hB35 E39
   have z_w38 := E39.size
   have hR := hR.keep E39 (fun k hk => .inr (by simp at hk; omega))
   have hT := hT.keep E39 (fun k hk => .inr (by simp at hk; omega))
   have hB5 := hB5.keep E39 (fun hh => hB5.ne hB35_old (by decide) (Option.some.inj hh))
   have hO7 := hO7.keep E39 (.inr ne_b33_d7_cv)
   have hP7 := hP7.keepX hB35_old E39 (by decide)
   have hB13 := hB13.keep E39 (fun hh => hB13.ne hB35_old (by decide) (Option.some.inj hh))
   have hxl := hxl.keep E39 (fun hh => hxl.ne hB35_old (by decide) (Option.some.inj hh))
   have hO23 := hO23.keepX hB35_old E39 (by decide)
   have hO24 := hO24.keepX hB35_old E39 (by decide)
   have hb := hb.step1 E39 (by omega)
   refine reg_nil (hK28 _ _ ?_)
   have hml := (hsz9 _ (tab_mem ht7)).1
   have hcl := @cols_len x (d7.t.cols.take i)
   have hkl := @kinds_len (d7.t.cols.take i)
   rw [List.length_take] at hcl hkl
   have hcl2 : (C ++ colsOf x (d7.t.cols.take i)).length = C.length + (colsOf x (d7.t.cols.take i)).length := List.length_append
   have hkl2 : (K ++ kindsOf (d7.t.cols.take i)).length = K.length + (kindsOf (d7.t.cols.take i)).length := List.length_append
   refine reg_split (hd := [_, _, _, _, _, _, _, _, _, _, _, _, _, _, _, _, _, _, _, _, _, _, _]) (tl := _) 23 mixed (by kernel_rfl) rfl rfl ?_
   refine any_treek (φ := phiV [(fun uz => uz = (ptr l 0)), (fun uz => uz = (ptr l 0)), (fun uz => uz = (ptr l 0)), (fun uz => uz = (ptr l 0)), (fun uz => uz = (ptr l 2)), (fun uz => uz = cv2), (fun uz => uz = (Value.string (bs x))), (fun uz => uz = (ptr b33 0)), (fun uz => uz = (Value.string (bs (d7.t.cols.getD i default).nm))), (fun uz => uz = (Value.agg #[(Value.int .i64 0), (Value.string (bs x)), (Value.string (bs (d7.t.cols.getD i default).nm))])), (fun _ => True), (fun _ => True), (fun uz => uz = (ptr l 0)), (fun uz => uz = (ptr l 0)), (fun uz => uz = (ptr l 3)), (fun uz => uz = kv2), (fun uz => uz = (ptr b33 1)), (fun uz => uz = (Value.int .i64 (d7.t.cols.getD i default).kind)), (fun _ => True), (fun _ => True), (fun uz => uz = (ptr l 0)), (fun uz => uz = (ptr l 2)), (fun _ => True)]) (G := fun t9 w' => (22 ∈ t9 → (Bx w' l 92 [tv, (Value.slice none 0 0), cv2, kv2])) ∧ (Bx w' b33 68 [(Value.string (bs (d7.t.cols.getD i default).nm)), (Value.int .i64 (d7.t.cols.getD i default).kind), (Value.string (bs (d7.t.cols.getD i default).ref))])) [10, 11, 18, 19, 22] (by kernel_rfl) (by kernel_rfl) (by kernel_rfl) (by kernel_rfl) (by kernel_rfl) hN22 (fun _ w1 w2 E h => ⟨fun hc9 => (h.1 hc9).keep0 E, h.2.keep0 E⟩) ⟨fun _ => hxl, hB35⟩ (ObRk9.cons ?_ (ObRk9.cons ?_ (ObRk9.cons ?_ (ObRk9.cons ?_ (ObRk9.cons ?_ (ObRk9.cons ?_ (ObRk9.cons ?_ (ObRk9.cons ?_ (ObRk9.cons ?_ (ObRk9.cons ?_ (ObRk9.pass rfl (ObRk9.pass rfl (ObRk9.cons ?_ (ObRk9.cons ?_ (ObRk9.cons ?_ (ObRk9.cons ?_ (ObRk9.cons ?_ (ObRk9.cons ?_ (ObRk9.pass rfl (ObRk9.pass rfl (ObRk9.cons ?_ (ObRk9.cons ?_ (ObRk9.pass rfl (ObRk9.nil)))))))))))))))))))))))) (by simp only [putsL_defers]) ?_
   ·
    intro eA tA aA wA hNA hckA hGA hbsA hdpA
    have qA_0 := (hbsA 0 rfl).trans (sl_base hN22 rfl s22_0)
    refine op_move (ev_base hNA rfl qA_0) ?_
    exact obTk_end rfl rfl
   ·
    intro eA tA aA wA hNA hckA hGA hbsA hdpA
    have qA_0 := (hbsA 0 rfl).trans (sl_base hN22 rfl s22_0)
    refine op_move (ev_base hNA rfl qA_0) ?_
    exact obTk_end rfl rfl
   ·
    intro eA tA aA wA hNA hckA hGA hbsA hdpA
    have qA_0 := (hbsA 0 rfl).trans (sl_base hN22 rfl s22_0)
    refine op_move (ev_base hNA rfl qA_0) ?_
    exact obTk_end rfl rfl
   ·
    intro eA tA aA wA hNA hckA hGA hbsA hdpA
    have qA_31 : Sl aA 31 (ptr l 0) := (hdpA 2 _ 31 (by kernel_rfl) rfl rfl).2 rfl
    refine op_nil (ev_base hNA rfl qA_31) ?_
    exact obTk_end rfl rfl
   ·
    intro eA tA aA wA hNA hckA hGA hbsA hdpA
    have qA_32 : Sl aA 32 (ptr l 0) := (hdpA 3 _ 32 (by kernel_rfl) rfl rfl).2 rfl
    refine op_field fld92_1 (ev_base hNA rfl qA_32) ?_
    exact obTk_end rfl rfl
   ·
    intro eA tA aA wA hNA hckA hGA hbsA hdpA
    have qA_33 : Sl aA 33 (ptr l 2) := (hdpA 4 _ 33 (by kernel_rfl) rfl rfl).2 rfl
    have hGA := hGA.1 (hckA 22 rfl (by kernel_rfl))
    refine op_load1 (v := cv2) one22 (ev_base hNA rfl qA_33) (hGA.cell rfl) ?_
    exact obTk_end rfl rfl
   ·
    intro eA tA aA wA hNA hckA hGA hbsA hdpA
    have qA_1 := (hbsA 1 rfl).trans (sl_base hN22 rfl s22_1)
    refine op_move (ev_base hNA rfl qA_1) ?_
    exact obTk_end rfl rfl
   ·
    intro eA tA aA wA hNA hckA hGA hbsA hdpA
    have qA_9 := (hbsA 9 rfl).trans (sl_hit hN22 rfl)
    refine op_field fld68_0 (ev_base hNA rfl qA_9) ?_
    exact obTk_end rfl rfl
   ·
    intro eA tA aA wA hNA hckA hGA hbsA hdpA
    have qA_36 : Sl aA 36 (ptr b33 0) := (hdpA 7 _ 36 (by kernel_rfl) rfl rfl).2 rfl
    have hGA := hGA.2
    refine op_load1 (v := (Value.string (bs (d7.t.cols.getD i default).nm))) one9 (ev_base hNA rfl qA_36) (hGA.cell rfl) ?_
    exact obTk_end rfl rfl
   ·
    intro eA tA aA wA hNA hckA hGA hbsA hdpA
    have qA_35 : Sl aA 35 (Value.string (bs x)) := (hdpA 6 _ 35 (by kernel_rfl) rfl rfl).2 rfl
    have qA_37 : Sl aA 37 (Value.string (bs (d7.t.cols.getD i default).nm)) := (hdpA 8 _ 37 (by kernel_rfl) rfl rfl).2 rfl
    refine op_build (pv := [(1, (Value.string (bs x))), (2, (Value.string (bs (d7.t.cols.getD i default).nm)))]) (v := (Value.agg #[(Value.int .i64 0), (Value.string (bs x)), (Value.string (bs (d7.t.cols.getD i default).nm))])) ⟨rfl, (ev_base hNA rfl qA_35), ⟨rfl, (ev_base hNA rfl qA_37), trivial⟩⟩ (by kernel_rfl) ?_
    exact obTk_end rfl rfl
   ·
    intro eA tA aA wA hNA hckA hGA hbsA hdpA
    have qA_0 := (hbsA 0 rfl).trans (sl_base hN22 rfl s22_0)
    refine op_move (ev_base hNA rfl qA_0) ?_
    exact obTk_end rfl rfl
   ·
    intro eA tA aA wA hNA hckA hGA hbsA hdpA
    have qA_41 : Sl aA 41 (ptr l 0) := (hdpA 12 _ 41 (by kernel_rfl) rfl rfl).2 rfl
    refine op_nil (ev_base hNA rfl qA_41) ?_
    exact obTk_end rfl rfl
   ·
    intro eA tA aA wA hNA hckA hGA hbsA hdpA
    have qA_42 : Sl aA 42 (ptr l 0) := (hdpA 13 _ 42 (by kernel_rfl) rfl rfl).2 rfl
    refine op_field fld92_2 (ev_base hNA rfl qA_42) ?_
    exact obTk_end rfl rfl
   ·
    intro eA tA aA wA hNA hckA hGA hbsA hdpA
    have qA_43 : Sl aA 43 (ptr l 3) := (hdpA 14 _ 43 (by kernel_rfl) rfl rfl).2 rfl
    have hGA := hGA.1 (hckA 22 rfl (by kernel_rfl))
    refine op_load1 (v := kv2) one23 (ev_base hNA rfl qA_43) (hGA.cell rfl) ?_
    exact obTk_end rfl rfl
   ·
    intro eA tA aA wA hNA hckA hGA hbsA hdpA
    have qA_9 := (hbsA 9 rfl).trans (sl_hit hN22 rfl)
    refine op_field fld68_1 (ev_base hNA rfl qA_9) ?_
    exact obTk_end rfl rfl
   ·
    intro eA tA aA wA hNA hckA hGA hbsA hdpA
    have qA_45 : Sl aA 45 (ptr b33 1) := (hdpA 16 _ 45 (by kernel_rfl) rfl rfl).2 rfl
    have hGA := hGA.2
    refine op_load1 (v := (Value.int .i64 (d7.t.cols.getD i default).kind)) one3 (ev_base hNA rfl qA_45) (hGA.cell rfl) ?_
    exact obTk_end rfl rfl
   ·
    intro eA tA aA wA hNA hckA hGA hbsA hdpA
    have qA_29 : Sl aA 29 (ptr l 0) := (hdpA 0 _ 29 (by kernel_rfl) rfl rfl).2 rfl
    refine op_nil (ev_base hNA rfl qA_29) ?_
    exact obTk_end rfl rfl
   ·
    intro eA tA aA wA hNA hckA hGA hbsA hdpA
    have qA_49 : Sl aA 49 (ptr l 0) := (hdpA 20 _ 49 (by kernel_rfl) rfl rfl).2 rfl
    refine op_field fld92_1 (ev_base hNA rfl qA_49) ?_
    exact obTk_end rfl rfl
   ·
    refine ktk_step (rs := [10, 18]) (by kernel_rfl) ?_
    refine more_mem ?_ ?_
    ·
     intro w41 E41 _ a41 hN41 hbs41 hdp41 o_ ho_; obtain rfl := Option.some.inj ho_
     have z_w41 := E41.size
     have hR := hR.keep0 E41
     have hT := hT.keep0 E41
     have hB5 := hB5.keep0 E41
     have hO7 := hO7.keep0 E41
     have hP7 := hP7.keep0 E41
     have hB13 := hB13.keep0 E41
     have hxl := hxl.keep0 E41
     have hO23 := hO23.keep0 E41
     have hO24 := hO24.keep0 E41
     have hB35 := hB35.keep0 E41
     have hb := hb.step0 E41
     have q41_38 : Sl a41 38 (Value.agg #[(Value.int .i64 0), (Value.string (bs x)), (Value.string (bs (d7.t.cols.getD i default).nm))]) := (hdp41 9 _ 38 (by kernel_rfl) rfl rfl).2 rfl
     refine op_bslice (e := 63) (pv := [(0, (Value.agg #[(Value.int .i64 0), (Value.string (bs x)), (Value.string (bs (d7.t.cols.getD i default).nm))]))]) (cs := [(Value.int .i64 0), (Value.string (bs x)), (Value.string (bs (d7.t.cols.getD i default).nm))]) ⟨rfl, (ev_base hN41 rfl q41_38), trivial⟩ (by kernel_rfl) ?_
     intro w42 b43 lo_b43 hi_b43 hB45 E44
     have z_w42 := E44.size
     have hR := hR.keep0 E44
     have hT := hT.keep0 E44
     have hB5 := hB5.keep0 E44
     have hO7 := hO7.keep0 E44
     have hP7 := hP7.keep0 E44
     have hB13 := hB13.keep0 E44
     have hxl := hxl.keep0 E44
     have hO23 := hO23.keep0 E44
     have hO24 := hO24.keep0 E44
     have hB35 := hB35.keep0 E44
     have hb := hb.step0 E44
     refine ktk_end (G := fun t9 w' => (22 ∈ t9 → (Bx w' l 92 [tv, (Value.slice none 0 0), cv2, kv2])) ∧ (Bx w' b33 68 [(Value.string (bs (d7.t.cols.getD i default).nm)), (Value.int .i64 (d7.t.cols.getD i default).kind), (Value.string (bs (d7.t.cols.getD i default).ref))])) (todo := [10, 11, 18, 19, 22]) (i := 10) rfl ⟨(fun _ => hxl), hB35⟩ ?_
     refine ktk_step (rs := [11, 18]) (by kernel_rfl) ?_
     refine more_mem ?_ ?_
     ·
      intro w47 E47 _ a47 hN47 hbs47 hdp47 o_ ho_; obtain rfl := Option.some.inj ho_
      have z_w47 := E47.size
      have hR := hR.keep0 E47
      have hT := hT.keep0 E47
      have hB5 := hB5.keep0 E47
      have hO7 := hO7.keep0 E47
      have hP7 := hP7.keep0 E47
      have hB13 := hB13.keep0 E47
      have hxl := hxl.keep0 E47
      have hO23 := hO23.keep0 E47
      have hO24 := hO24.keep0 E47
      have hB35 := hB35.keep0 E47
      have hB45 := hB45.keep0 E47
      have hb := hb.step0 E47
      have q47_34 : Sl a47 34 cv2 := (hdp47 5 _ 34 (by kernel_rfl) rfl rfl).2 rfl
      have q47_39 : Sl a47 39 (Value.slice (some ⟨b43, 0, none⟩) 1 1) := (Option.some.inj ((hdp47 10 _ 39 (by kernel_rfl) rfl rfl).1 rfl)).symm
      have hP53 := hO23
      refine op_append slt22 (ev_base hN47 rfl q47_34) hP53 (ev_base hN47 rfl q47_39) (Src.ofRd Try.underlying22 (by decide) (RdC.ofBx (sz := 3) (n := 1) hB45 rfl (by decide)) (by simp [Value.oneCell', u8v])) (by unfold maxLen; omega) (by omega) (Nat.le_trans (by assumption) hb.size) ?_
      intro v48 w49 hO51 E50 hm52
      have z_w49 := E50.size
      have hR := hR.keepO hP53 E50 (by omega)
      have hT := hT.keepO hP53 E50 (by omega)
      have hB5 := hB5.keepO hP53 E50 (by decide)
      have hO7 := hO7.keepT hP53 E50 (by decide)
      have hP7 := hP7.keepT hP53 E50 (by decide)
      have hB13 := hB13.keepO hP53 E50 (by decide)
      have hxl := hxl.keepO hP53 E50 (by decide)
      have hO24 := hO24.keepT hP53 E50 (by decide)
      have hB35 := hB35.keepO hP53 E50 (by decide)
      have hb := hb.stepL E50 hcF
      have hO51 : Own w49 B 63 3 v48 ((C ++ colsOf x (d7.t.cols.take i)).length + 1) (((C ++ colsOf x (d7.t.cols.take i)).flatMap cellsI ++ [(Value.int .i64 0), (Value.string (bs x)), (Value.string (bs (d7.t.cols.getD i default).nm))])) := by simpa [u8v, u16v, sv] using hO51
      refine ktk_end (G := fun t9 w' => (22 ∈ t9 → (Bx w' l 92 [tv, (Value.slice none 0 0), cv2, kv2])) ∧ (Bx w' b33 68 [(Value.string (bs (d7.t.cols.getD i default).nm)), (Value.int .i64 (d7.t.cols.getD i default).kind), (Value.string (bs (d7.t.cols.getD i default).ref))])) (todo := [11, 18, 19, 22]) (i := 11) rfl ⟨(fun _ => hxl), hB35⟩ ?_
      refine ktk_step (rs := [18]) (by kernel_rfl) ?_
      refine one_mem ?_
      intro w55 E55 _ a55 hN55 hbs55 hdp55 o_ ho_; obtain rfl := Option.some.inj ho_
      have z_w55 := E55.size
      have hR := hR.keep0 E55
      have hT := hT.keep0 E55
      have hB5 := hB5.keep0 E55
      have hO7 := hO7.keep0 E55
      have hP7 := hP7.keep0 E55
      have hB13 := hB13.keep0 E55
      have hxl := hxl.keep0 E55
      have hO24 := hO24.keep0 E55
      have hB35 := hB35.keep0 E55
      have hO51 := hO51.keep0 E55
      have hb := hb.step0 E55
      have q55_46 : Sl a55 46 (Value.int .i64 (d7.t.cols.getD i default).kind) := (hdp55 17 _ 46 (by kernel_rfl) rfl rfl).2 rfl
      refine op_bslice (e := 3) (pv := [(0, (Value.int .i64 (d7.t.cols.getD i default).kind))]) (cs := [(Value.int .i64 (d7.t.cols.getD i default).kind)]) ⟨rfl, (ev_base hN55 rfl q55_46), trivial⟩ (by kernel_rfl) ?_
      intro w56 b57 lo_b57 hi_b57 hB59 E58
      have z_w56 := E58.size
      have hR := hR.keep0 E58
      have hT := hT.keep0 E58
      have hB5 := hB5.keep0 E58
      have hO7 := hO7.keep0 E58
      have hP7 := hP7.keep0 E58
      have hB13 := hB13.keep0 E58
      have hxl := hxl.keep0 E58
      have hO24 := hO24.keep0 E58
      have hB35 := hB35.keep0 E58
      have hO51 := hO51.keep0 E58
      have hb := hb.step0 E58
      refine ktk_end (G := fun t9 w' => (22 ∈ t9 → (Bx w' l 92 [tv, (Value.slice none 0 0), cv2, kv2])) ∧ (Bx w' b33 68 [(Value.string (bs (d7.t.cols.getD i default).nm)), (Value.int .i64 (d7.t.cols.getD i default).kind), (Value.string (bs (d7.t.cols.getD i default).ref))])) (todo := [18, 19, 22]) (i := 18) rfl ⟨(fun _ => hxl), hB35⟩ ?_
      refine ktk_step (rs := [19]) (by kernel_rfl) ?_
      refine one_mem ?_
      intro w61 E61 _ a61 hN61 hbs61 hdp61 o_ ho_; obtain rfl := Option.some.inj ho_
      have z_w61 := E61.size
      have hR := hR.keep0 E61
      have hT := hT.keep0 E61
      have hB5 := hB5.keep0 E61
      have hO7 := hO7.keep0 E61
      have hP7 := hP7.keep0 E61
      have hB13 := hB13.keep0 E61
      have hxl := hxl.keep0 E61
      have hO24 := hO24.keep0 E61
      have hB35 := hB35.keep0 E61
      have hO51 := hO51.keep0 E61
      have hB59 := hB59.keep0 E61
      have hb := hb.step0 E61
      have q61_44 : Sl a61 44 kv2 := (hdp61 15 _ 44 (by kernel_rfl) rfl rfl).2 rfl
      have q61_47 : Sl a61 47 (Value.slice (some ⟨b57, 0, none⟩) 1 1) := (Option.some.inj ((hdp61 18 _ 47 (by kernel_rfl) rfl rfl).1 rfl)).symm
      have hP67 := hO24
      refine op_append slt23 (ev_base hN61 rfl q61_44) hP67 (ev_base hN61 rfl q61_47) (Src.ofRd Try.underlying23 (by decide) (RdC.ofBx (sz := 1) (n := 1) hB59 rfl (by decide)) (by simp [Value.oneCell', u8v])) (by unfold maxLen; omega) (by omega) (Nat.le_trans (by assumption) hb.size) ?_
      intro v62 w63 hO65 E64 hm66
      have z_w63 := E64.size
      have hR := hR.keepO hP67 E64 (by omega)
      have hT := hT.keepO hP67 E64 (by omega)
      have hB5 := hB5.keepO hP67 E64 (by decide)
      have hO7 := hO7.keepT hP67 E64 (by decide)
      have hP7 := hP7.keepT hP67 E64 (by decide)
      have hB13 := hB13.keepO hP67 E64 (by decide)
      have hxl := hxl.keepO hP67 E64 (by decide)
      have hB35 := hB35.keepO hP67 E64 (by decide)
      have hO51 := hO51.keepT hP67 E64 (by decide)
      have hb := hb.stepL E64 hkF
      have hO65 : Own w63 B 3 1 v62 ((K ++ kindsOf (d7.t.cols.take i)).length + 1) ((((K ++ kindsOf (d7.t.cols.take i)) ++ [(d7.t.cols.getD i default).kind])).map (Value.int .i64)) := by simpa [u8v, u16v, sv] using hO65
      refine ktk_end (G := fun t9 w' => (22 ∈ t9 → (Bx w' l 92 [tv, (Value.slice none 0 0), cv2, kv2])) ∧ (Bx w' b33 68 [(Value.string (bs (d7.t.cols.getD i default).nm)), (Value.int .i64 (d7.t.cols.getD i default).kind), (Value.string (bs (d7.t.cols.getD i default).ref))])) (todo := [19, 22]) (i := 19) rfl ⟨(fun _ => hxl), hB35⟩ ?_
      refine ktk_step (rs := [22]) (by kernel_rfl) ?_
      refine one_mem ?_
      intro w69 E69 _ a69 hN69 hbs69 hdp69 o_ ho_; obtain rfl := Option.some.inj ho_
      have z_w69 := E69.size
      have hR := hR.keep0 E69
      have hT := hT.keep0 E69
      have hB5 := hB5.keep0 E69
      have hO7 := hO7.keep0 E69
      have hP7 := hP7.keep0 E69
      have hB13 := hB13.keep0 E69
      have hxl := hxl.keep0 E69
      have hB35 := hB35.keep0 E69
      have hO51 := hO51.keep0 E69
      have hO65 := hO65.keep0 E69
      have hb := hb.step0 E69
      have q69_50 : Sl a69 50 (ptr l 2) := (hdp69 21 _ 50 (by kernel_rfl) rfl rfl).2 rfl
      have q69_40 : Sl a69 40 v48 := (Option.some.inj ((hdp69 11 _ 40 (by kernel_rfl) rfl rfl).1 rfl)).symm
      have hxl_old := hxl
      refine op_store (vs := [v48]) (cs' := [tv, (Value.slice none 0 0), v48, kv2]) size22 (ev_base hN69 rfl q69_50) (ev_base hN69 rfl q69_40) hO51.cl rfl (by simp only [List.all_cons, List.all_nil, Bool.true_and, Bool.and_true, hO51.one]; try rfl) hxl (Nat.le_of_ble_eq_true rfl) rfl ?_
      intro w72 hxl E73
      have z_w72 := E73.size
      have hR := hR.keep E73 (fun k hk => .inr (by simp at hk; omega))
      have hT := hT.keep E73 (fun k hk => .inr (by simp at hk; omega))
      have hB5 := hB5.keep E73 (fun hh => hB5.ne hxl_old (by decide) (Option.some.inj hh))
      have hO7 := hO7.keepX hxl_old E73 (by decide)
      have hP7 := hP7.keepX hxl_old E73 (by decide)
      have hB13 := hB13.keep E73 (fun hh => hB13.ne hxl_old (by decide) (Option.some.inj hh))
      have hB35 := hB35.keep E73 (fun hh => hB35.ne hxl_old (by decide) (Option.some.inj hh))
      have hO51 := hO51.keepX hxl_old E73 (by decide)
      have hO65 := hO65.keepX hxl_old E73 (by decide)
      have hb := hb.stepB E73 (.inl rfl)
      refine ktk_end0 (G := fun t9 w' => (22 ∈ t9 → (Bx w' l 92 [tv, (Value.slice none 0 0), cv2, kv2])) ∧ (Bx w' b33 68 [(Value.string (bs (d7.t.cols.getD i default).nm)), (Value.int .i64 (d7.t.cols.getD i default).kind), (Value.string (bs (d7.t.cols.getD i default).ref))])) (todo := [22]) (i := 22) rfl ⟨(fun h => absurd h (by decide)), hB35⟩ ?_
      intro w74 E74 a74 hN74 hd74 hbs74 hph74
      have hd74 := hd74.trans ((by simp only [putsL_defers] : _ = _).trans hd22)
      have z_w74 := E74.size
      have hR := hR.keep0 E74
      have hT := hT.keep0 E74
      have hB5 := hB5.keep0 E74
      have hO7 := hO7.keep0 E74
      have hP7 := hP7.keep0 E74
      have hB13 := hB13.keep0 E74
      have hO51 := hO51.keep0 E74
      have hO65 := hO65.keep0 E74
      have hxl := hxl.keep0 E74
      have hb := hb.step0 E74
      have s74_0 := (hbs74 0 rfl).trans (sl_base hN22 rfl s22_0)
      have s74_1 := (hbs74 1 rfl).trans (sl_base hN22 rfl s22_1)
      have s74_4 := (hbs74 4 rfl).trans (sl_base hN22 rfl s22_4)
      have s74_5 := (hbs74 5 rfl).trans (sl_base hN22 rfl s22_5)
      have s74_6 := (hbs74 6 rfl).trans (sl_base hN22 rfl s22_6)
      have s74_23 := (hbs74 23 rfl).trans (sl_base hN22 rfl s22_23)
      have s74_24 := (hbs74 24 rfl).trans (sl_base hN22 rfl s22_24)
      have s74_25 := (hbs74 25 rfl).trans (sl_base hN22 rfl s22_25)
      have s74_30 : Sl a74 30 (ptr l 0) := (hph74 1 _ 30 rfl rfl).2 rfl
      have s74_48 : Sl a74 48 v62 := (Option.some.inj ((hph74 19 _ 48 rfl rfl).1 rfl)).symm
      refine split_end ?_
      refine from_seq (tl := [_, _, _]) (by decide) (by kernel_rfl) rfl ?_
      refine op_nil (ev_base hN74 rfl s74_30) (op_field fld92_2 (ev_hit hN74 rfl) ?_)
      have hxl_old := hxl
      refine op_store (vs := [v62]) (cs' := [tv, (Value.slice none 0 0), v48, v62]) size23 (ev_hit hN74 rfl) (ev_base hN74 rfl s74_48) hO65.cl rfl (by simp only [List.all_cons, List.all_nil, Bool.true_and, Bool.and_true, hO65.one]; try rfl) hxl (Nat.le_of_ble_eq_true rfl) rfl ?_
      intro w77 hxl E78
      have z_w77 := E78.size
      have hR := hR.keep E78 (fun k hk => .inr (by simp at hk; omega))
      have hT := hT.keep E78 (fun k hk => .inr (by simp at hk; omega))
      have hB5 := hB5.keep E78 (fun hh => hB5.ne hxl_old (by decide) (Option.some.inj hh))
      have hO7 := hO7.keepX hxl_old E78 (by decide)
      have hP7 := hP7.keepX hxl_old E78 (by decide)
      have hB13 := hB13.keep E78 (fun hh => hB13.ne hxl_old (by decide) (Option.some.inj hh))
      have hO51 := hO51.keepX hxl_old E78 (by decide)
      have hO65 := hO65.keepX hxl_old E78 (by decide)
      have hb := hb.stepB E78 (.inl rfl)
      refine reg_nil (hK27 _ _ (one_reg (op_add (ev_base hN74 rfl s74_25) rfl (add64 (by omega)) ?_)))
      refine op_move (ev_hit hN74 rfl) (reg_nil ?_)
      -- round 16T 26T
      exact loop_next _ hN74 hd74 ⟨(i + 1), v48, v62, rfl, (sl_base hN74 rfl s74_0), (sl_base hN74 rfl s74_1), (sl_base hN74 rfl s74_4), (sl_base hN74 rfl s74_5), (sl_base hN74 rfl s74_6), (sl_base hN74 rfl s74_23), (sl_base hN74 rfl s74_24), (sl_hit hN74 rfl).trans (congrArg (Value.int .i64) (by omega)), (by omega), (inF_step (n := w.heap.size) hm52 (by omega) hcF), (inF_step (n := w.heap.size) hm66 (by omega) hkF), hb, (by omega), hR, hT, hB5, hO7, hP7, hB13, hxl, (hO51.cast (by rw [cols_snoc (by omega)]; simp only [List.length_append, List.length_cons, List.length_nil]; omega) (by rw [cols_snoc (by omega)]; simp [List.append_assoc, cellsI])), (hO65.cast (by rw [kinds_snoc (by omega)]; simp only [List.length_append, List.length_cons, List.length_nil]; omega) (by rw [kinds_snoc (by omega)]; simp [List.append_assoc]))⟩ (by omega)
     refine one_mem ?_
     intro w79 E79 _ a79 hN79 hbs79 hdp79 o_ ho_; obtain rfl := Option.some.inj ho_
     have z_w79 := E79.size
     have hR := hR.keep0 E79
     have hT := hT.keep0 E79
     have hB5 := hB5.keep0 E79
     have hO7 := hO7.keep0 E79
     have hP7 := hP7.keep0 E79
     have hB13 := hB13.keep0 E79
     have hxl := hxl.keep0 E79
     have hO23 := hO23.keep0 E79
     have hO24 := hO24.keep0 E79
     have hB35 := hB35.keep0 E79
     have hB45 := hB45.keep0 E79
     have hb := hb.step0 E79
     have q79_46 : Sl a79 46 (Value.int .i64 (d7.t.cols.getD i default).kind) := (hdp79 17 _ 46 (by kernel_rfl) rfl rfl).2 rfl
     refine op_bslice (e := 3) (pv := [(0, (Value.int .i64 (d7.t.cols.getD i default).kind))]) (cs := [(Value.int .i64 (d7.t.cols.getD i default).kind)]) ⟨rfl, (ev_base hN79 rfl q79_46), trivial⟩ (by kernel_rfl) ?_
     intro w80 b81 lo_b81 hi_b81 hB83 E82
     have z_w80 := E82.size
     have hR := hR.keep0 E82
     have hT := hT.keep0 E82
     have hB5 := hB5.keep0 E82
     have hO7 := hO7.keep0 E82
     have hP7 := hP7.keep0 E82
     have hB13 := hB13.keep0 E82
     have hxl := hxl.keep0 E82
     have hO23 := hO23.keep0 E82
     have hO24 := hO24.keep0 E82
     have hB35 := hB35.keep0 E82
     have hB45 := hB45.keep0 E82
     have hb := hb.step0 E82
     refine ktk_end (G := fun t9 w' => (22 ∈ t9 → (Bx w' l 92 [tv, (Value.slice none 0 0), cv2, kv2])) ∧ (Bx w' b33 68 [(Value.string (bs (d7.t.cols.getD i default).nm)), (Value.int .i64 (d7.t.cols.getD i default).kind), (Value.string (bs (d7.t.cols.getD i default).ref))])) (todo := [11, 18, 19, 22]) (i := 18) rfl ⟨(fun _ => hxl), hB35⟩ ?_
     refine ktk_step (rs := [11]) (by kernel_rfl) ?_
     refine one_mem ?_
     intro w85 E85 _ a85 hN85 hbs85 hdp85 o_ ho_; obtain rfl := Option.some.inj ho_
     have z_w85 := E85.size
     have hR := hR.keep0 E85
     have hT := hT.keep0 E85
     have hB5 := hB5.keep0 E85
     have hO7 := hO7.keep0 E85
     have hP7 := hP7.keep0 E85
     have hB13 := hB13.keep0 E85
     have hxl := hxl.keep0 E85
     have hO23 := hO23.keep0 E85
     have hO24 := hO24.keep0 E85
     have hB35 := hB35.keep0 E85
     have hB45 := hB45.keep0 E85
     have hB83 := hB83.keep0 E85
     have hb := hb.step0 E85
     have q85_34 : Sl a85 34 cv2 := (hdp85 5 _ 34 (by kernel_rfl) rfl rfl).2 rfl
     have q85_39 : Sl a85 39 (Value.slice (some ⟨b43, 0, none⟩) 1 1) := (Option.some.inj ((hdp85 10 _ 39 (by kernel_rfl) rfl rfl).1 rfl)).symm
     have hP91 := hO23
     refine op_append slt22 (ev_base hN85 rfl q85_34) hP91 (ev_base hN85 rfl q85_39) (Src.ofRd Try.underlying22 (by decide) (RdC.ofBx (sz := 3) (n := 1) hB45 rfl (by decide)) (by simp [Value.oneCell', u8v])) (by unfold maxLen; omega) (by omega) (Nat.le_trans (by assumption) hb.size) ?_
     intro v86 w87 hO89 E88 hm90
     have z_w87 := E88.size
     have hR := hR.keepO hP91 E88 (by omega)
     have hT := hT.keepO hP91 E88 (by omega)
     have hB5 := hB5.keepO hP91 E88 (by decide)
     have hO7 := hO7.keepT hP91 E88 (by decide)
     have hP7 := hP7.keepT hP91 E88 (by decide)
     have hB13 := hB13.keepO hP91 E88 (by decide)
     have hxl := hxl.keepO hP91 E88 (by decide)
     have hO24 := hO24.keepT hP91 E88 (by decide)
     have hB35 := hB35.keepO hP91 E88 (by decide)
     have hB83 := hB83.keepO hP91 E88 (by decide)
     have hb := hb.stepL E88 hcF
     have hO89 : Own w87 B 63 3 v86 ((C ++ colsOf x (d7.t.cols.take i)).length + 1) (((C ++ colsOf x (d7.t.cols.take i)).flatMap cellsI ++ [(Value.int .i64 0), (Value.string (bs x)), (Value.string (bs (d7.t.cols.getD i default).nm))])) := by simpa [u8v, u16v, sv] using hO89
     refine ktk_end (G := fun t9 w' => (22 ∈ t9 → (Bx w' l 92 [tv, (Value.slice none 0 0), cv2, kv2])) ∧ (Bx w' b33 68 [(Value.string (bs (d7.t.cols.getD i default).nm)), (Value.int .i64 (d7.t.cols.getD i default).kind), (Value.string (bs (d7.t.cols.getD i default).ref))])) (todo := [11, 19, 22]) (i := 11) rfl ⟨(fun _ => hxl), hB35⟩ ?_
     refine ktk_step (rs := [19]) (by kernel_rfl) ?_
     refine one_mem ?_
     intro w93 E93 _ a93 hN93 hbs93 hdp93 o_ ho_; obtain rfl := Option.some.inj ho_
     have z_w93 := E93.size
     have hR := hR.keep0 E93
     have hT := hT.keep0 E93
     have hB5 := hB5.keep0 E93
     have hO7 := hO7.keep0 E93
     have hP7 := hP7.keep0 E93
     have hB13 := hB13.keep0 E93
     have hxl := hxl.keep0 E93
     have hO24 := hO24.keep0 E93
     have hB35 := hB35.keep0 E93
     have hB83 := hB83.keep0 E93
     have hO89 := hO89.keep0 E93
     have hb := hb.step0 E93
     have q93_44 : Sl a93 44 kv2 := (hdp93 15 _ 44 (by kernel_rfl) rfl rfl).2 rfl
     have q93_47 : Sl a93 47 (Value.slice (some ⟨b81, 0, none⟩) 1 1) := (Option.some.inj ((hdp93 18 _ 47 (by kernel_rfl) rfl rfl).1 rfl)).symm
     have hP99 := hO24
     refine op_append slt23 (ev_base hN93 rfl q93_44) hP99 (ev_base hN93 rfl q93_47) (Src.ofRd Try.underlying23 (by decide) (RdC.ofBx (sz := 1) (n := 1) hB83 rfl (by decide)) (by simp [Value.oneCell', u8v])) (by unfold maxLen; omega) (by omega) (Nat.le_trans (by assumption) hb.size) ?_
     intro v94 w95 hO97 E96 hm98
     have z_w95 := E96.size
     have hR := hR.keepO hP99 E96 (by omega)
     have hT := hT.keepO hP99 E96 (by omega)
     have hB5 := hB5.keepO hP99 E96 (by decide)
     have hO7 := hO7.keepT hP99 E96 (by decide)
     have hP7 := hP7.keepT hP99 E96 (by decide)
     have hB13 := hB13.keepO hP99 E96 (by decide)
     have hxl := hxl.keepO hP99 E96 (by decide)
     have hB35 := hB35.keepO hP99 E96 (by decide)
     have hO89 := hO89.keepT hP99 E96 (by decide)
     have hb := hb.stepL E96 hkF
     have hO97 : Own w95 B 3 1 v94 ((K ++ kindsOf (d7.t.cols.take i)).length + 1) ((((K ++ kindsOf (d7.t.cols.take i)) ++ [(d7.t.cols.getD i default).kind])).map (Value.int .i64)) := by simpa [u8v, u16v, sv] using hO97
     refine ktk_end (G := fun t9 w' => (22 ∈ t9 → (Bx w' l 92 [tv, (Value.slice none 0 0), cv2, kv2])) ∧ (Bx w' b33 68 [(Value.string (bs (d7.t.cols.getD i default).nm)), (Value.int .i64 (d7.t.cols.getD i default).kind), (Value.string (bs (d7.t.cols.getD i default).ref))])) (todo := [19, 22]) (i := 19) rfl ⟨(fun _ => hxl), hB35⟩ ?_
     refine ktk_step (rs := [22]) (by kernel_rfl) ?_
     refine one_mem ?_
     intro w101 E101 _ a101 hN101 hbs101 hdp101 o_ ho_; obtain rfl := Option.some.inj ho_
     have z_w101 := E101.size
     have hR := hR.keep0 E101
     have hT := hT.keep0 E101
     have hB5 := hB5.keep0 E101
     have hO7 := hO7.keep0 E101
     have hP7 := hP7.keep0 E101
     have hB13 := hB13.keep0 E101
     have hxl := hxl.keep0 E101
     have hB35 := hB35.keep0 E101
     have hO89 := hO89.keep0 E101
     have hO97 := hO97.keep0 E101
     have hb := hb.step0 E101
     have q101_50 : Sl a101 50 (ptr l 2) := (hdp101 21 _ 50 (by kernel_rfl) rfl rfl).2 rfl
     have q101_40 : Sl a101 40 v86 := (Option.some.inj ((hdp101 11 _ 40 (by kernel_rfl) rfl rfl).1 rfl)).symm
     have hxl_old := hxl
     refine op_store (vs := [v86]) (cs' := [tv, (Value.slice none 0 0), v86, kv2]) size22 (ev_base hN101 rfl q101_50) (ev_base hN101 rfl q101_40) hO89.cl rfl (by simp only [List.all_cons, List.all_nil, Bool.true_and, Bool.and_true, hO89.one]; try rfl) hxl (Nat.le_of_ble_eq_true rfl) rfl ?_
     intro w104 hxl E105
     have z_w104 := E105.size
     have hR := hR.keep E105 (fun k hk => .inr (by simp at hk; omega))
     have hT := hT.keep E105 (fun k hk => .inr (by simp at hk; omega))
     have hB5 := hB5.keep E105 (fun hh => hB5.ne hxl_old (by decide) (Option.some.inj hh))
     have hO7 := hO7.keepX hxl_old E105 (by decide)
     have hP7 := hP7.keepX hxl_old E105 (by decide)
     have hB13 := hB13.keep E105 (fun hh => hB13.ne hxl_old (by decide) (Option.some.inj hh))
     have hB35 := hB35.keep E105 (fun hh => hB35.ne hxl_old (by decide) (Option.some.inj hh))
     have hO89 := hO89.keepX hxl_old E105 (by decide)
     have hO97 := hO97.keepX hxl_old E105 (by decide)
     have hb := hb.stepB E105 (.inl rfl)
     refine ktk_end0 (G := fun t9 w' => (22 ∈ t9 → (Bx w' l 92 [tv, (Value.slice none 0 0), cv2, kv2])) ∧ (Bx w' b33 68 [(Value.string (bs (d7.t.cols.getD i default).nm)), (Value.int .i64 (d7.t.cols.getD i default).kind), (Value.string (bs (d7.t.cols.getD i default).ref))])) (todo := [22]) (i := 22) rfl ⟨(fun h => absurd h (by decide)), hB35⟩ ?_
     intro w106 E106 a106 hN106 hd106 hbs106 hph106
     have hd106 := hd106.trans ((by simp only [putsL_defers] : _ = _).trans hd22)
     have z_w106 := E106.size
     have hR := hR.keep0 E106
     have hT := hT.keep0 E106
     have hB5 := hB5.keep0 E106
     have hO7 := hO7.keep0 E106
     have hP7 := hP7.keep0 E106
     have hB13 := hB13.keep0 E106
     have hO89 := hO89.keep0 E106
     have hO97 := hO97.keep0 E106
     have hxl := hxl.keep0 E106
     have hb := hb.step0 E106
     have s106_0 := (hbs106 0 rfl).trans (sl_base hN22 rfl s22_0)
     have s106_1 := (hbs106 1 rfl).trans (sl_base hN22 rfl s22_1)
     have s106_4 := (hbs106 4 rfl).trans (sl_base hN22 rfl s22_4)
     have s106_5 := (hbs106 5 rfl).trans (sl_base hN22 rfl s22_5)
     have s106_6 := (hbs106 6 rfl).trans (sl_base hN22 rfl s22_6)
     have s106_23 := (hbs106 23 rfl).trans (sl_base hN22 rfl s22_23)
     have s106_24 := (hbs106 24 rfl).trans (sl_base hN22 rfl s22_24)
     have s106_25 := (hbs106 25 rfl).trans (sl_base hN22 rfl s22_25)
     have s106_30 : Sl a106 30 (ptr l 0) := (hph106 1 _ 30 rfl rfl).2 rfl
     have s106_48 : Sl a106 48 v94 := (Option.some.inj ((hph106 19 _ 48 rfl rfl).1 rfl)).symm
     refine split_end ?_
     refine from_seq (tl := [_, _, _]) (by decide) (by kernel_rfl) rfl ?_
     refine op_nil (ev_base hN106 rfl s106_30) (op_field fld92_2 (ev_hit hN106 rfl) ?_)
     have hxl_old := hxl
     refine op_store (vs := [v94]) (cs' := [tv, (Value.slice none 0 0), v86, v94]) size23 (ev_hit hN106 rfl) (ev_base hN106 rfl s106_48) hO97.cl rfl (by simp only [List.all_cons, List.all_nil, Bool.true_and, Bool.and_true, hO97.one]; try rfl) hxl (Nat.le_of_ble_eq_true rfl) rfl ?_
     intro w109 hxl E110
     have z_w109 := E110.size
     have hR := hR.keep E110 (fun k hk => .inr (by simp at hk; omega))
     have hT := hT.keep E110 (fun k hk => .inr (by simp at hk; omega))
     have hB5 := hB5.keep E110 (fun hh => hB5.ne hxl_old (by decide) (Option.some.inj hh))
     have hO7 := hO7.keepX hxl_old E110 (by decide)
     have hP7 := hP7.keepX hxl_old E110 (by decide)
     have hB13 := hB13.keep E110 (fun hh => hB13.ne hxl_old (by decide) (Option.some.inj hh))
     have hO89 := hO89.keepX hxl_old E110 (by decide)
     have hO97 := hO97.keepX hxl_old E110 (by decide)
     have hb := hb.stepB E110 (.inl rfl)
     refine reg_nil (hK27 _ _ (one_reg (op_add (ev_base hN106 rfl s106_25) rfl (add64 (by omega)) ?_)))
     refine op_move (ev_hit hN106 rfl) (reg_nil ?_)
     -- round 16T 26T
     exact loop_next _ hN106 hd106 ⟨(i + 1), v86, v94, rfl, (sl_base hN106 rfl s106_0), (sl_base hN106 rfl s106_1), (sl_base hN106 rfl s106_4), (sl_base hN106 rfl s106_5), (sl_base hN106 rfl s106_6), (sl_base hN106 rfl s106_23), (sl_base hN106 rfl s106_24), (sl_hit hN106 rfl).trans (congrArg (Value.int .i64) (by omega)), (by omega), (inF_step (n := w.heap.size) hm90 (by omega) hcF), (inF_step (n := w.heap.size) hm98 (by omega) hkF), hb, (by omega), hR, hT, hB5, hO7, hP7, hB13, hxl, (hO89.cast (by rw [cols_snoc (by omega)]; simp only [List.length_append, List.length_cons, List.length_nil]; omega) (by rw [cols_snoc (by omega)]; simp [List.append_assoc, cellsI])), (hO97.cast (by rw [kinds_snoc (by omega)]; simp only [List.length_append, List.length_cons, List.length_nil]; omega) (by rw [kinds_snoc (by omega)]; simp [List.append_assoc]))⟩ (by omega)
    refine one_mem ?_
    intro w111 E111 _ a111 hN111 hbs111 hdp111 o_ ho_; obtain rfl := Option.some.inj ho_
    have z_w111 := E111.size
    have hR := hR.keep0 E111
    have hT := hT.keep0 E111
    have hB5 := hB5.keep0 E111
    have hO7 := hO7.keep0 E111
    have hP7 := hP7.keep0 E111
    have hB13 := hB13.keep0 E111
    have hxl := hxl.keep0 E111
    have hO23 := hO23.keep0 E111
    have hO24 := hO24.keep0 E111
    have hB35 := hB35.keep0 E111
    have hb := hb.step0 E111
    have q111_46 : Sl a111 46 (Value.int .i64 (d7.t.cols.getD i default).kind) := (hdp111 17 _ 46 (by kernel_rfl) rfl rfl).2 rfl
    refine op_bslice (e := 3) (pv := [(0, (Value.int .i64 (d7.t.cols.getD i default).kind))]) (cs := [(Value.int .i64 (d7.t.cols.getD i default).kind)]) ⟨rfl, (ev_base hN111 rfl q111_46), trivial⟩ (by kernel_rfl) ?_
    intro w112 b113 lo_b113 hi_b113 hB115 E114
    have z_w112 := E114.size
    have hR := hR.keep0 E114
    have hT := hT.keep0 E114
    have hB5 := hB5.keep0 E114
    have hO7 := hO7.keep0 E114
    have hP7 := hP7.keep0 E114
    have hB13 := hB13.keep0 E114
    have hxl := hxl.keep0 E114
    have hO23 := hO23.keep0 E114
    have hO24 := hO24.keep0 E114
    have hB35 := hB35.keep0 E114
    have hb := hb.step0 E114
    refine ktk_end (G := fun t9 w' => (22 ∈ t9 → (Bx w' l 92 [tv, (Value.slice none 0 0), cv2, kv2])) ∧ (Bx w' b33 68 [(Value.string (bs (d7.t.cols.getD i default).nm)), (Value.int .i64 (d7.t.cols.getD i default).kind), (Value.string (bs (d7.t.cols.getD i default).ref))])) (todo := [10, 11, 18, 19, 22]) (i := 18) rfl ⟨(fun _ => hxl), hB35⟩ ?_
    refine ktk_step (rs := [10]) (by kernel_rfl) ?_
    refine one_mem ?_
    intro w117 E117 _ a117 hN117 hbs117 hdp117 o_ ho_; obtain rfl := Option.some.inj ho_
    have z_w117 := E117.size
    have hR := hR.keep0 E117
    have hT := hT.keep0 E117
    have hB5 := hB5.keep0 E117
    have hO7 := hO7.keep0 E117
    have hP7 := hP7.keep0 E117
    have hB13 := hB13.keep0 E117
    have hxl := hxl.keep0 E117
    have hO23 := hO23.keep0 E117
    have hO24 := hO24.keep0 E117
    have hB35 := hB35.keep0 E117
    have hB115 := hB115.keep0 E117
    have hb := hb.step0 E117
    have q117_38 : Sl a117 38 (Value.agg #[(Value.int .i64 0), (Value.string (bs x)), (Value.string (bs (d7.t.cols.getD i default).nm))]) := (hdp117 9 _ 38 (by kernel_rfl) rfl rfl).2 rfl
    refine op_bslice (e := 63) (pv := [(0, (Value.agg #[(Value.int .i64 0), (Value.string (bs x)), (Value.string (bs (d7.t.cols.getD i default).nm))]))]) (cs := [(Value.int .i64 0), (Value.string (bs x)), (Value.string (bs (d7.t.cols.getD i default).nm))]) ⟨rfl, (ev_base hN117 rfl q117_38), trivial⟩ (by kernel_rfl) ?_
    intro w118 b119 lo_b119 hi_b119 hB121 E120
    have z_w118 := E120.size
    have hR := hR.keep0 E120
    have hT := hT.keep0 E120
    have hB5 := hB5.keep0 E120
    have hO7 := hO7.keep0 E120
    have hP7 := hP7.keep0 E120
    have hB13 := hB13.keep0 E120
    have hxl := hxl.keep0 E120
    have hO23 := hO23.keep0 E120
    have hO24 := hO24.keep0 E120
    have hB35 := hB35.keep0 E120
    have hB115 := hB115.keep0 E120
    have hb := hb.step0 E120
    refine ktk_end (G := fun t9 w' => (22 ∈ t9 → (Bx w' l 92 [tv, (Value.slice none 0 0), cv2, kv2])) ∧ (Bx w' b33 68 [(Value.string (bs (d7.t.cols.getD i default).nm)), (Value.int .i64 (d7.t.cols.getD i default).kind), (Value.string (bs (d7.t.cols.getD i default).ref))])) (todo := [10, 11, 19, 22]) (i := 10) rfl ⟨(fun _ => hxl), hB35⟩ ?_
    refine ktk_step (rs := [11]) (by kernel_rfl) ?_
    refine one_mem ?_
    intro w123 E123 _ a123 hN123 hbs123 hdp123 o_ ho_; obtain rfl := Option.some.inj ho_
    have z_w123 := E123.size
    have hR := hR.keep0 E123
    have hT := hT.keep0 E123
    have hB5 := hB5.keep0 E123
    have hO7 := hO7.keep0 E123
    have hP7 := hP7.keep0 E123
    have hB13 := hB13.keep0 E123
    have hxl := hxl.keep0 E123
    have hO23 := hO23.keep0 E123
    have hO24 := hO24.keep0 E123
    have hB35 := hB35.keep0 E123
    have hB115 := hB115.keep0 E123
    have hB121 := hB121.keep0 E123
    have hb := hb.step0 E123
    have q123_34 : Sl a123 34 cv2 := (hdp123 5 _ 34 (by kernel_rfl) rfl rfl).2 rfl
    have q123_39 : Sl a123 39 (Value.slice (some ⟨b119, 0, none⟩) 1 1) := (Option.some.inj ((hdp123 10 _ 39 (by kernel_rfl) rfl rfl).1 rfl)).symm
    have hP129 := hO23
    refine op_append slt22 (ev_base hN123 rfl q123_34) hP129 (ev_base hN123 rfl q123_39) (Src.ofRd Try.underlying22 (by decide) (RdC.ofBx (sz := 3) (n := 1) hB121 rfl (by decide)) (by simp [Value.oneCell', u8v])) (by unfold maxLen; omega) (by omega) (Nat.le_trans (by assumption) hb.size) ?_
    intro v124 w125 hO127 E126 hm128
    have z_w125 := E126.size
    have hR := hR.keepO hP129 E126 (by omega)
    have hT := hT.keepO hP129 E126 (by omega)
    have hB5 := hB5.keepO hP129 E126 (by decide)
    have hO7 := hO7.keepT hP129 E126 (by decide)
    have hP7 := hP7.keepT hP129 E126 (by decide)
    have hB13 := hB13.keepO hP129 E126 (by decide)
    have hxl := hxl.keepO hP129 E126 (by decide)
    have hO24 := hO24.keepT hP129 E126 (by decide)
    have hB35 := hB35.keepO hP129 E126 (by decide)
    have hB115 := hB115.keepO hP129 E126 (by decide)
    have hb := hb.stepL E126 hcF
    have hO127 : Own w125 B 63 3 v124 ((C ++ colsOf x (d7.t.cols.take i)).length + 1) (((C ++ colsOf x (d7.t.cols.take i)).flatMap cellsI ++ [(Value.int .i64 0), (Value.string (bs x)), (Value.string (bs (d7.t.cols.getD i default).nm))])) := by simpa [u8v, u16v, sv] using hO127
    refine ktk_end (G := fun t9 w' => (22 ∈ t9 → (Bx w' l 92 [tv, (Value.slice none 0 0), cv2, kv2])) ∧ (Bx w' b33 68 [(Value.string (bs (d7.t.cols.getD i default).nm)), (Value.int .i64 (d7.t.cols.getD i default).kind), (Value.string (bs (d7.t.cols.getD i default).ref))])) (todo := [11, 19, 22]) (i := 11) rfl ⟨(fun _ => hxl), hB35⟩ ?_
    refine ktk_step (rs := [19]) (by kernel_rfl) ?_
    refine one_mem ?_
    intro w131 E131 _ a131 hN131 hbs131 hdp131 o_ ho_; obtain rfl := Option.some.inj ho_
    have z_w131 := E131.size
    have hR := hR.keep0 E131
    have hT := hT.keep0 E131
    have hB5 := hB5.keep0 E131
    have hO7 := hO7.keep0 E131
    have hP7 := hP7.keep0 E131
    have hB13 := hB13.keep0 E131
    have hxl := hxl.keep0 E131
    have hO24 := hO24.keep0 E131
    have hB35 := hB35.keep0 E131
    have hB115 := hB115.keep0 E131
    have hO127 := hO127.keep0 E131
    have hb := hb.step0 E131
    have q131_44 : Sl a131 44 kv2 := (hdp131 15 _ 44 (by kernel_rfl) rfl rfl).2 rfl
    have q131_47 : Sl a131 47 (Value.slice (some ⟨b113, 0, none⟩) 1 1) := (Option.some.inj ((hdp131 18 _ 47 (by kernel_rfl) rfl rfl).1 rfl)).symm
    have hP137 := hO24
    refine op_append slt23 (ev_base hN131 rfl q131_44) hP137 (ev_base hN131 rfl q131_47) (Src.ofRd Try.underlying23 (by decide) (RdC.ofBx (sz := 1) (n := 1) hB115 rfl (by decide)) (by simp [Value.oneCell', u8v])) (by unfold maxLen; omega) (by omega) (Nat.le_trans (by assumption) hb.size) ?_
    intro v132 w133 hO135 E134 hm136
    have z_w133 := E134.size
    have hR := hR.keepO hP137 E134 (by omega)
    have hT := hT.keepO hP137 E134 (by omega)
    have hB5 := hB5.keepO hP137 E134 (by decide)
    have hO7 := hO7.keepT hP137 E134 (by decide)
    have hP7 := hP7.keepT hP137 E134 (by decide)
    have hB13 := hB13.keepO hP137 E134 (by decide)
    have hxl := hxl.keepO hP137 E134 (by decide)
    have hB35 := hB35.keepO hP137 E134 (by decide)
    have hO127 := hO127.keepT hP137 E134 (by decide)
    have hb := hb.stepL E134 hkF
    have hO135 : Own w133 B 3 1 v132 ((K ++ kindsOf (d7.t.cols.take i)).length + 1) ((((K ++ kindsOf (d7.t.cols.take i)) ++ [(d7.t.cols.getD i default).kind])).map (Value.int .i64)) := by simpa [u8v, u16v, sv] using hO135
    refine ktk_end (G := fun t9 w' => (22 ∈ t9 → (Bx w' l 92 [tv, (Value.slice none 0 0), cv2, kv2])) ∧ (Bx w' b33 68 [(Value.string (bs (d7.t.cols.getD i default).nm)), (Value.int .i64 (d7.t.cols.getD i default).kind), (Value.string (bs (d7.t.cols.getD i default).ref))])) (todo := [19, 22]) (i := 19) rfl ⟨(fun _ => hxl), hB35⟩ ?_
    refine ktk_step (rs := [22]) (by kernel_rfl) ?_
    refine one_mem ?_
    intro w139 E139 _ a139 hN139 hbs139 hdp139 o_ ho_; obtain rfl := Option.some.inj ho_
    have z_w139 := E139.size
    have hR := hR.keep0 E139
    have hT := hT.keep0 E139
    have hB5 := hB5.keep0 E139
    have hO7 := hO7.keep0 E139
    have hP7 := hP7.keep0 E139
    have hB13 := hB13.keep0 E139
    have hxl := hxl.keep0 E139
    have hB35 := hB35.keep0 E139
    have hO127 := hO127.keep0 E139
    have hO135 := hO135.keep0 E139
    have hb := hb.step0 E139
    have q139_50 : Sl a139 50 (ptr l 2) := (hdp139 21 _ 50 (by kernel_rfl) rfl rfl).2 rfl
    have q139_40 : Sl a139 40 v124 := (Option.some.inj ((hdp139 11 _ 40 (by kernel_rfl) rfl rfl).1 rfl)).symm
    have hxl_old := hxl
    refine op_store (vs := [v124]) (cs' := [tv, (Value.slice none 0 0), v124, kv2]) size22 (ev_base hN139 rfl q139_50) (ev_base hN139 rfl q139_40) hO127.cl rfl (by simp only [List.all_cons, List.all_nil, Bool.true_and, Bool.and_true, hO127.one]; try rfl) hxl (Nat.le_of_ble_eq_true rfl) rfl ?_
    intro w142 hxl E143
    have z_w142 := E143.size
    have hR := hR.keep E143 (fun k hk => .inr (by simp at hk; omega))
    have hT := hT.keep E143 (fun k hk => .inr (by simp at hk; omega))
    have hB5 := hB5.keep E143 (fun hh => hB5.ne hxl_old (by decide) (Option.some.inj hh))
    have hO7 := hO7.keepX hxl_old E143 (by decide)
    have hP7 := hP7.keepX hxl_old E143 (by decide)
    have hB13 := hB13.keep E143 (fun hh => hB13.ne hxl_old (by decide) (Option.some.inj hh))
    have hB35 := hB35.keep E143 (fun hh => hB35.ne hxl_old (by decide) (Option.some.inj hh))
    have hO127 := hO127.keepX hxl_old E143 (by decide)
    have hO135 := hO135.keepX hxl_old E143 (by decide)
    have hb := hb.stepB E143 (.inl rfl)
    refine ktk_end0 (G := fun t9 w' => (22 ∈ t9 → (Bx w' l 92 [tv, (Value.slice none 0 0), cv2, kv2])) ∧ (Bx w' b33 68 [(Value.string (bs (d7.t.cols.getD i default).nm)), (Value.int .i64 (d7.t.cols.getD i default).kind), (Value.string (bs (d7.t.cols.getD i default).ref))])) (todo := [22]) (i := 22) rfl ⟨(fun h => absurd h (by decide)), hB35⟩ ?_
    intro w144 E144 a144 hN144 hd144 hbs144 hph144
    have hd144 := hd144.trans ((by simp only [putsL_defers] : _ = _).trans hd22)
    have z_w144 := E144.size
    have hR := hR.keep0 E144
    have hT := hT.keep0 E144
    have hB5 := hB5.keep0 E144
    have hO7 := hO7.keep0 E144
    have hP7 := hP7.keep0 E144
    have hB13 := hB13.keep0 E144
    have hO127 := hO127.keep0 E144
    have hO135 := hO135.keep0 E144
    have hxl := hxl.keep0 E144
    have hb := hb.step0 E144
    have s144_0 := (hbs144 0 rfl).trans (sl_base hN22 rfl s22_0)
    have s144_1 := (hbs144 1 rfl).trans (sl_base hN22 rfl s22_1)
    have s144_4 := (hbs144 4 rfl).trans (sl_base hN22 rfl s22_4)
    have s144_5 := (hbs144 5 rfl).trans (sl_base hN22 rfl s22_5)
    have s144_6 := (hbs144 6 rfl).trans (sl_base hN22 rfl s22_6)
    have s144_23 := (hbs144 23 rfl).trans (sl_base hN22 rfl s22_23)
    have s144_24 := (hbs144 24 rfl).trans (sl_base hN22 rfl s22_24)
    have s144_25 := (hbs144 25 rfl).trans (sl_base hN22 rfl s22_25)
    have s144_30 : Sl a144 30 (ptr l 0) := (hph144 1 _ 30 rfl rfl).2 rfl
    have s144_48 : Sl a144 48 v132 := (Option.some.inj ((hph144 19 _ 48 rfl rfl).1 rfl)).symm
    refine split_end ?_
    refine from_seq (tl := [_, _, _]) (by decide) (by kernel_rfl) rfl ?_
    refine op_nil (ev_base hN144 rfl s144_30) (op_field fld92_2 (ev_hit hN144 rfl) ?_)
    have hxl_old := hxl
    refine op_store (vs := [v132]) (cs' := [tv, (Value.slice none 0 0), v124, v132]) size23 (ev_hit hN144 rfl) (ev_base hN144 rfl s144_48) hO135.cl rfl (by simp only [List.all_cons, List.all_nil, Bool.true_and, Bool.and_true, hO135.one]; try rfl) hxl (Nat.le_of_ble_eq_true rfl) rfl ?_
    intro w147 hxl E148
    have z_w147 := E148.size
    have hR := hR.keep E148 (fun k hk => .inr (by simp at hk; omega))
    have hT := hT.keep E148 (fun k hk => .inr (by simp at hk; omega))
    have hB5 := hB5.keep E148 (fun hh => hB5.ne hxl_old (by decide) (Option.some.inj hh))
    have hO7 := hO7.keepX hxl_old E148 (by decide)
    have hP7 := hP7.keepX hxl_old E148 (by decide)
    have hB13 := hB13.keep E148 (fun hh => hB13.ne hxl_old (by decide) (Option.some.inj hh))
    have hO127 := hO127.keepX hxl_old E148 (by decide)
    have hO135 := hO135.keepX hxl_old E148 (by decide)
    have hb := hb.stepB E148 (.inl rfl)
    refine reg_nil (hK27 _ _ (one_reg (op_add (ev_base hN144 rfl s144_25) rfl (add64 (by omega)) ?_)))
    refine op_move (ev_hit hN144 rfl) (reg_nil ?_)
    -- round 16T 26T
    exact loop_next _ hN144 hd144 ⟨(i + 1), v124, v132, rfl, (sl_base hN144 rfl s144_0), (sl_base hN144 rfl s144_1), (sl_base hN144 rfl s144_4), (sl_base hN144 rfl s144_5), (sl_base hN144 rfl s144_6), (sl_base hN144 rfl s144_23), (sl_base hN144 rfl s144_24), (sl_hit hN144 rfl).trans (congrArg (Value.int .i64) (by omega)), (by omega), (inF_step (n := w.heap.size) hm128 (by omega) hcF), (inF_step (n := w.heap.size) hm136 (by omega) hkF), hb, (by omega), hR, hT, hB5, hO7, hP7, hB13, hxl, (hO127.cast (by rw [cols_snoc (by omega)]; simp only [List.length_append, List.length_cons, List.length_nil]; omega) (by rw [cols_snoc (by omega)]; simp [List.append_assoc, cellsI])), (hO135.cast (by rw [kinds_snoc (by omega)]; simp only [List.length_append, List.length_cons, List.length_nil]; omega) (by rw [kinds_snoc (by omega)]; simp [List.append_assoc]))⟩ (by omega)
  ·
   refine reg_nil (hK25 _ _ (seq_any fun K149 hK149 => wp_cond_false (ev_hit hN22 rfl) (wp_exit (then_exit (then_exit (blk_hit ?_))))))
   refine hK20 _ _ (seq_any fun K150 hK150 => one_reg (op_loadA (cs := [(Value.string (bs d7.t.nm)), d7.cv, d7.iv]) agg55 rfl (ev_base hN22 rfl s22_6) (fun j u hu => by rw [Nat.zero_add]; exact hB13.cell hu) ?_))
   have hB5_old := hB5
   refine op_store (vs := [(Value.string (bs d7.t.nm)), d7.cv, d7.iv]) (cs' := [(Value.string (bs d7.t.nm)), d7.cv, d7.iv]) size55 (ev_base hN22 rfl s22_4) (ev_hit hN22 rfl) rfl rfl (by simp only [List.all_cons, List.all_nil, Bool.true_and, Bool.and_true, hO7.one, hP7.one]; try rfl) hB5 (Nat.le_of_ble_eq_true rfl) rfl ?_
   intro w153 hB5 E154
   have z_w153 := E154.size
   have hO7 := hO7.keepX hB5_old E154 (by decide)
   have hP7 := hP7.keepX hB5_old E154 (by decide)
   have hxl := hxl.keep E154 (fun hh => hxl.ne hB5_old (by decide) (Option.some.inj hh))
   have hO23 := hO23.keepX hB5_old E154 (by decide)
   have hO24 := hO24.keepX hB5_old E154 (by decide)
   have hb := hb.step1 E154 (by omega)
   refine op_assign rfl (reg_nil (hK150 _ _ (wp_ret ?_)))
   refine retN (rs := [.cell 4 55, .tmp 5]) (vs := [(Value.agg #[(Value.string (bs d7.t.nm)), d7.cv, d7.iv]), (Value.int .i64 0)]) rfl hd22 ⟨⟨_, (ev_base hN22 rfl s22_4), run_loadA (cs := [(Value.string (bs d7.t.nm)), d7.cv, d7.iv]) agg55 rfl (fun j u hu => by rw [Nat.zero_add]; exact hB5.cell hu)⟩, ⟨(ev_hit hN22 rfl), trivial⟩⟩ rfl ⟨_, rfl, ?_⟩
   have e9 : d7.t.cols.take i = d7.t.cols := List.take_of_length_le (by omega)
   rw [e9] at hO23 hO24
   exact ⟨hb, _, _, _, _, hxl, hO23, hO24, hcF, hkF, .inr ⟨_, ht7, rfl, rfl, rfl, hO7, hP7⟩⟩
 ·
  refine op_fn (vs := [(Value.agg #[tv, (Value.slice none 0 0)]), (Value.string (bs x))]) ok57 ⟨(ev_hit hN rfl), ⟨(ev_hit hN rfl), trivial⟩⟩ (TableF k16 (hT.mono (by omega)) hD hsz) ?_
  rintro _ w155 ⟨E156, rfl⟩
  have E156 := grown_of_below E156
  have z_w155 := E156.size
  have hx := hx.keep0 E156
  have O := O.keep0 E156
  have P := P.keep0 E156
  have hB5 := hB5.keep0 E156
  have hb := hb.step0 E156
  refine op_move (ev_hit hN rfl) (op_extract (ev_hit hN rfl) rfl ?_)
  refine op_extract (ev_hit hN rfl) rfl ?_
  refine op_alloc (cs := [(Value.string (bs [])), (Value.slice none 0 0), (Value.slice none 0 0)]) zero55 rfl ?_
  intro w157 b158 lo_b158 hi_b158 hB160 E159
  have z_w157 := E159.size
  have hx := hx.keep0 E159
  have O := O.keep0 E159
  have P := P.keep0 E159
  have hB5 := hB5.keep0 E159
  have hb := hb.step0 E159
  have hB160_old := hB160
  refine op_store (vs := [(Value.string (bs [])), (Value.slice none 0 0), (Value.slice none 0 0)]) (cs' := [(Value.string (bs [])), (Value.slice none 0 0), (Value.slice none 0 0)]) size55 (ev_hit hN rfl) (ev_hit hN rfl) rfl rfl rfl hB160 (Nat.le_of_ble_eq_true rfl) rfl ?_
  intro w163 hB160 E164
  have z_w163 := E164.size
  have hx := hx.keep E164 (fun hh => hx.ne hB160_old (by decide) (Option.some.inj hh))
  have O := O.keepX hB160_old E164 (by decide)
  have P := P.keepX hB160_old E164 (by decide)
  have hB5 := hB5.keep E164 (by simp; omega)
  have hb := hb.step1 E164 (by omega)
  refine op_assign (ev_hit hN rfl) ?_
  refine reg_nil (hK6 _ _ (seq_any fun K165 hK165 => seq_any fun K166 hK166 => one_reg (op_move (ev_hit hN rfl) (op_not (ev_hit hN rfl) ?_))))
  refine reg_nil (hK166 _ _ (wp_cond_true (ev_hit hN rfl) (seq_any fun K167 hK167 => one_reg (op_loadA (cs := [(Value.string (bs [])), (Value.slice none 0 0), (Value.slice none 0 0)]) agg55 rfl (ev_hit hN rfl) (fun j u hu => by rw [Nat.zero_add]; exact hB160.cell hu) ?_))))
  have hB5_old := hB5
  refine op_store (vs := [(Value.string (bs [])), (Value.slice none 0 0), (Value.slice none 0 0)]) (cs' := [(Value.string (bs [])), (Value.slice none 0 0), (Value.slice none 0 0)]) size55 (ev_hit hN rfl) (ev_hit hN rfl) rfl rfl rfl hB5 (Nat.le_of_ble_eq_true rfl) rfl ?_
  intro w170 hB5 E171
  have z_w170 := E171.size
  have hx := hx.keep E171 (fun hh => hx.ne hB5_old (by decide) (Option.some.inj hh))
  have O := O.keepX hB5_old E171 (by decide)
  have P := P.keepX hB5_old E171 (by decide)
  have hb := hb.step1 E171 (by omega)
  refine op_assign rfl (reg_nil (hK167 _ _ (wp_ret (then_ret ( ?_)))))
  refine retN (rs := [.cell 4 55, .tmp 5]) (vs := [(Value.agg #[(Value.string (bs [])), (Value.slice none 0 0), (Value.slice none 0 0)]), (Value.int .i64 9)]) rfl hd ⟨⟨_, (ev_hit hN rfl), run_loadA (cs := [(Value.string (bs [])), (Value.slice none 0 0), (Value.slice none 0 0)]) agg55 rfl (fun j u hu => by rw [Nat.zero_add]; exact hB5.cell hu)⟩, ⟨(ev_hit hN rfl), trivial⟩⟩ rfl ⟨_, rfl, ?_⟩
  exact ⟨hb, _, _, _, _, hx, O, P, fun k _ h => .inr (.inl h), fun k _ h => .inr (.inr h), .inl ⟨k16, rfl, rfl, rfl⟩⟩

theorem lookTable_ret {tv : Value} {D : List DTab} {C : List PItm} {K : List Int} {l B : Nat} {F : Nat → Prop} (x : List UInt8) {w : World} (hT : TsRd w B tv D) (hD : D.length ≤ 1000000) (hsz : ∀ d ∈ D, d.t.cols.length ≤ 1000000 ∧ d.t.idx.length ≤ 1000000) (hB : B ≤ w.heap.size) (h : LookR w B l tv (.slice none 0 0) C K F) (hCl : C.length ≤ 1000000000) (hKl : K.length ≤ 1000000000) : Ret Try.prog 45 #[ptr l 0, .string (bs x)] w (fun v' w' => Gr w w' F ∧ (((tabAt (D.map DTab.t) x).isSome = false ∧ v' = .tuple #[.agg #[.string (bs []), .slice none 0 0, .slice none 0 0], .int .i64 9] ∧ ∃ F', LookR w' B l tv (.slice none 0 0) C K F' ∧ NewF w.heap.size F F') ∨
    ∃ d : DTab, tabAt (D.map DTab.t) x = some d.t ∧ v' = .tuple #[.agg #[.string (bs d.t.nm), d.cv, d.iv], .int .i64 0] ∧ Own w' w.heap.size 68 3 d.cv d.t.cols.length (d.t.cols.flatMap cellsC) ∧ Own w' w.heap.size 9 1 d.iv d.t.idx.length (d.t.idx.map sv) ∧ ∃ F', LookR w' B l tv (.slice none 0 0) (C ++ colsOf x d.t.cols) (K ++ kindsOf d.t.cols) F' ∧ NewF w.heap.size F F')) := by
  obtain ⟨cv, kv, h0, hx, O, P, hF⟩ := h
  refine (lookTable x hT hD hsz hB h0 hx O P hCl hKl).mono fun v' w' q => ?_
  obtain ⟨E, cv', kv', C', K', hx', O', P', f1, f2, q⟩ := q
  have hn : NewF w.heap.size F (fun y => y = l ∨ Bl cv' y ∨ Bl kv' y) := fun k hk => by
    by_cases hlt : k < w.heap.size
    · refine .inl ((hF k).2 ?_)
      rcases hk with hk | hk | hk
      · exact .inl hk
      · exact f1 k hlt hk
      · exact f2 k hlt hk
    · exact .inr (by omega)
  refine ⟨E.mono fun k _ hk => (hF k).2 hk, ?_⟩
  rcases q with ⟨k1, rfl, rfl, rfl⟩ | ⟨d, h1, rfl, rfl, rfl, h2, h3⟩
  · exact .inl ⟨k1, rfl, _, ⟨cv', kv', h0, hx', O', P', fun _ => Iff.rfl⟩, hn⟩
  · exact .inr ⟨d, h1, rfl, h2, h3, _, ⟨cv', kv', h0, hx', O', P', fun _ => Iff.rfl⟩, hn⟩
theorem lookTableT {tv : Value} {D : List DTab} {C : List PItm} {K : List Int} {l B : Nat} {F : Nat → Prop} {x : List UInt8} {w : World} (hk : (tabAt (D.map DTab.t) x).isSome = true) (hT : TsRd w B tv D) (hD : D.length ≤ 1000000) (hsz : ∀ d ∈ D, d.t.cols.length ≤ 1000000 ∧ d.t.idx.length ≤ 1000000) (hB : B ≤ w.heap.size) (h : LookR w B l tv (.slice none 0 0) C K F) (hCl : C.length ≤ 1000000000) (hKl : K.length ≤ 1000000000) : Ret Try.prog 45 #[ptr l 0, .string (bs x)] w (fun v' w' => Gr w w' F ∧ ∃ d : DTab, v' = .tuple #[.agg #[.string (bs d.t.nm), d.cv, d.iv], .int .i64 0] ∧ tabAt (D.map DTab.t) x = some d.t ∧ Own w' w.heap.size 68 3 d.cv d.t.cols.length (d.t.cols.flatMap cellsC) ∧ Own w' w.heap.size 9 1 d.iv d.t.idx.length (d.t.idx.map sv) ∧ ∃ F', LookR w' B l tv (.slice none 0 0) (C ++ colsOf x d.t.cols) (K ++ kindsOf d.t.cols) F' ∧ NewF w.heap.size F F') :=
  (lookTable_ret x hT hD hsz hB h hCl hKl).mono fun v' w' q => ⟨q.1, q.2.elim (fun q => by rw [q.1] at hk; cases hk) fun ⟨d, h1, h2, h3⟩ => ⟨d, h2, h1, h3⟩⟩
theorem lookTableF {tv : Value} {D : List DTab} {C : List PItm} {K : List Int} {l B : Nat} {F : Nat → Prop} {x : List UInt8} {w : World} (hk : (tabAt (D.map DTab.t) x).isSome = false) (hT : TsRd w B tv D) (hD : D.length ≤ 1000000) (hsz : ∀ d ∈ D, d.t.cols.length ≤ 1000000 ∧ d.t.idx.length ≤ 1000000) (hB : B ≤ w.heap.size) (h : LookR w B l tv (.slice none 0 0) C K F) (hCl : C.length ≤ 1000000000) (hKl : K.length ≤ 1000000000) : Ret Try.prog 45 #[ptr l 0, .string (bs x)] w (fun v' w' => Gr w w' F ∧ v' = .tuple #[.agg #[.string (bs []), .slice none 0 0, .slice none 0 0], .int .i64 9] ∧ ∃ F', LookR w' B l tv (.slice none 0 0) C K F' ∧ NewF w.heap.size F F') :=
  (lookTable_ret x hT hD hsz hB h hCl hKl).mono fun v' w' q => ⟨q.1, q.2.elim (fun q => q.2) fun ⟨d, h1, _⟩ => by rw [h1] at hk; cases hk⟩

theorem lkKind {tv vv : Value} {C : List PItm} {K : List Int} {l B : Nat} {F : Nat → Prop} (e : XE) {w : World} (hB : B ≤ w.heap.size) (h : LookR w B l tv vv C K F) (hCl : C.length ≤ 2000000000) (hKl : K.length ≤ 2000000000) (he : XRd w w.heap.size e) : Ret Try.prog 99 #[(ptr l 0), (Value.agg #[(Value.int .i64 e.op), (Value.int .i64 e.vk), (Value.int .i64 e.vi), (Value.string (bs e.vt)), (Value.string (bs e.tb)), (Value.string (bs e.nm)), e.av])] w (fun v' w' => Below w.heap.size w w' ∧ v' = .tuple #[.int .i64 (kindX C K e).1, .int .i64 (kindX C K e).2]) := by
 obtain ⟨cv, kv, h0, hx, O, P, hF⟩ := h
 have hi_l := hx.lt
 have hb := Below.refl w.heap.size w
 refine enter (N := 18) Try.func99 rfl rfl (by simp) fun a0 hN hd hA => ?_
 have s0 : a0.tmps.getD 0 undef = (ptr l 0) := hA 0 (by simp)
 have s1 : a0.tmps.getD 1 undef = (Value.agg #[(Value.int .i64 e.op), (Value.int .i64 e.vk), (Value.int .i64 e.vi), (Value.string (bs e.vt)), (Value.string (bs e.tb)), (Value.string (bs e.nm)), e.av]) := hA 1 (by simp)
 clear hA
 refine seq_any fun K1 hK1 => one_reg (op_box (cs := [(Value.int .i64 e.op), (Value.int .i64 e.vk), (Value.int .i64 e.vi), (Value.string (bs e.vt)), (Value.string (bs e.tb)), (Value.string (bs e.nm)), e.av]) (ev_base hN rfl s1) rfl ?_)
 intro w2 b3 lo_b3 hi_b3 hB5 E4
 have z_w2 := E4.size
 have hx := hx.keep0 E4
 have O := O.keep0 E4
 have P := P.keep0 E4
 have he := he.keep0 E4
 have hb := below_step0 hb E4 hb.size
 refine op_assign rfl (op_assign rfl (reg_nil (hK1 _ _ (seq_any fun K6 hK6 => reg_from mixed ?_))))
 intro w8 E7
 have z_w8 := E7.size
 have hx := hx.keep0 E7
 have O := O.keep0 E7
 have P := P.keep0 E7
 have he := he.keep0 E7
 have hB5 := hB5.keep0 E7
 have hb := below_step0 hb E7 hb.size
 refine from_still (m := 9) 9 (hd := [_, _, _, _, _, _, _, _, _]) (by kernel_rfl) rfl rfl ?_
 refine st_step rfl (fun _ h9 => op_move (ev_base hN rfl s0) h9) ?_
 refine st_step rfl (fun _ h9 => op_nil (ev_hit hN rfl) h9) ?_
 refine st_step rfl (fun _ h9 => op_field fld92_1 (ev_hit hN rfl) h9) ?_
 refine st_step rfl (fun _ h9 => op_load1 (v := cv) one22 (ev_hit hN rfl) (hx.cell rfl) h9) ?_
 refine st_step rfl (fun _ h9 => op_move (ev_base hN rfl s0) h9) ?_
 refine st_step rfl (fun _ h9 => op_nil (ev_hit hN rfl) h9) ?_
 refine st_step rfl (fun _ h9 => op_field fld92_2 (ev_hit hN rfl) h9) ?_
 refine st_step rfl (fun _ h9 => op_load1 (v := kv) one23 (ev_hit hN rfl) (hx.cell rfl) h9) ?_
 refine st_step rfl (fun _ h9 => op_loadA (cs := [(Value.int .i64 e.op), (Value.int .i64 e.vk), (Value.int .i64 e.vi), (Value.string (bs e.vt)), (Value.string (bs e.tb)), (Value.string (bs e.nm)), e.av]) agg28 rfl (ev_hit hN rfl) (fun j u hu => by rw [Nat.zero_add]; exact hB5.cell hu) h9) ?_
 refine st_nil ?_
 refine from_one (k' := 10) (by kernel_rfl) rfl rfl ?_
 refine op_fn (vs := [cv, kv, (Value.agg #[(Value.int .i64 e.op), (Value.int .i64 e.vk), (Value.int .i64 e.vi), (Value.string (bs e.vt)), (Value.string (bs e.tb)), (Value.string (bs e.nm)), e.av])]) ok14 ⟨(ev_hit hN rfl), ⟨(ev_hit hN rfl), ⟨(ev_hit hN rfl), trivial⟩⟩⟩ ((Kind_all e) (by first | assumption | omega | (simp only [List.length_append, List.length_cons, List.length_nil, List.length_drop, List.length_take]; omega) | (dsimp only; omega) | decide | (simp [keyV, be8_len]; done)) (by first | assumption | omega | (simp only [List.length_append, List.length_cons, List.length_nil, List.length_drop, List.length_take]; omega) | (dsimp only; omega) | decide | (simp [keyV, be8_len]; done)) (O.rdw.mono (Nat.zero_le _) (by omega)) (P.rdw.mono (Nat.zero_le _) (by omega)) (he.mono (by omega))) ?_
 rintro _ w9 ⟨E10, rfl⟩
 have E10 := grown_of_below E10
 have z_w9 := E10.size
 have hb := below_step0 hb E10 hb.size
 refine from_next ?_
 refine from_still (m := 14) 4 (hd := [_, _, _, _]) (by kernel_rfl) rfl rfl ?_
 refine st_step rfl (fun _ h9 => op_extract (ev_hit hN rfl) rfl h9) ?_
 refine st_step rfl (fun _ h9 => op_extract (ev_hit hN rfl) rfl h9) ?_
 refine st_step rfl (fun _ h9 => op_assign (ev_hit hN rfl) h9) ?_
 refine st_step rfl (fun _ h9 => op_assign (ev_hit hN rfl) h9) ?_
 refine st_nil ?_
 refine from_end ?_ rfl
 refine hK6 _ _ (wp_ret ?_)
 refine ret2 rfl hd (ev_hit hN rfl) (ev_hit hN rfl) ⟨_, rfl, ?_⟩
 exact ⟨hb, rfl⟩

theorem lkMust {tv vv : Value} {C : List PItm} {K : List Int} {l B : Nat} {F : Nat → Prop} (e : XE) (kd : Int) {w : World} (hB : B ≤ w.heap.size) (h : LookR w B l tv vv C K F) (hCl : C.length ≤ 2000000000) (hKl : K.length ≤ 2000000000) (he : XRd w w.heap.size e) : Ret Try.prog 70 #[(ptr l 0), (Value.agg #[(Value.int .i64 e.op), (Value.int .i64 e.vk), (Value.int .i64 e.vi), (Value.string (bs e.vt)), (Value.string (bs e.tb)), (Value.string (bs e.nm)), e.av]), (Value.int .i64 kd)] w (fun v' w' => Below w.heap.size w w' ∧ v' = .int .i64 (mustX C K e kd)) := by
 have hb := Below.refl w.heap.size w
 refine enter (N := 23) Try.func70 rfl rfl (by simp) fun a0 hN hd hA => ?_
 have s0 : a0.tmps.getD 0 undef = (ptr l 0) := hA 0 (by simp)
 have s1 : a0.tmps.getD 1 undef = (Value.agg #[(Value.int .i64 e.op), (Value.int .i64 e.vk), (Value.int .i64 e.vi), (Value.string (bs e.vt)), (Value.string (bs e.tb)), (Value.string (bs e.nm)), e.av]) := hA 1 (by simp)
 have s2 : a0.tmps.getD 2 undef = (Value.int .i64 kd) := hA 2 (by simp)
 clear hA
 refine seq_any fun K11 hK11 => one_reg (op_box (cs := [(Value.int .i64 e.op), (Value.int .i64 e.vk), (Value.int .i64 e.vi), (Value.string (bs e.vt)), (Value.string (bs e.tb)), (Value.string (bs e.nm)), e.av]) (ev_base hN rfl s1) rfl ?_)
 intro w12 b13 lo_b13 hi_b13 hB15 E14
 have z_w12 := E14.size
 have h := h.kz E14
 have he := he.keep0 E14
 have hb := below_step0 hb E14 hb.size
 refine op_assign rfl (reg_nil (hK11 _ _ (seq_any fun K17 hK17 => one_reg (op_move (ev_base hN rfl s0) (op_loadA (cs := [(Value.int .i64 e.op), (Value.int .i64 e.vk), (Value.int .i64 e.vi), (Value.string (bs e.vt)), (Value.string (bs e.tb)), (Value.string (bs e.nm)), e.av]) agg28 rfl (ev_hit hN rfl) (fun j u hu => by rw [Nat.zero_add]; exact hB15.cell hu) ?_)))))
 refine op_fn (vs := [(ptr l 0), (Value.agg #[(Value.int .i64 e.op), (Value.int .i64 e.vk), (Value.int .i64 e.vi), (Value.string (bs e.vt)), (Value.string (bs e.tb)), (Value.string (bs e.nm)), e.av])]) ok99 ⟨(ev_hit hN rfl), ⟨(ev_hit hN rfl), trivial⟩⟩ (lkKind e (by omega) h hCl hKl (he.mono (by omega))) ?_
 rintro _ w18 ⟨E19, rfl⟩
 have E19 := grown_of_below E19
 have z_w18 := E19.size
 have hb := below_step0 hb E19 hb.size
 refine op_move (ev_hit hN rfl) (op_extract (ev_hit hN rfl) rfl ?_)
 refine op_extract (ev_hit hN rfl) rfl ?_
 refine op_assign (ev_hit hN rfl) (op_assign (ev_hit hN rfl) (reg_nil (hK17 _ _ (seq_any fun K20 hK20 => wp_block ?_))))
 refine seq_any fun K21 hK21 => ?_
 refine one_reg (op_move (ev_hit hN rfl) (op_neq (ev_hit hN rfl) rfl (fun c17 => ?_) (fun c17 => ?_)))
 ·
  refine op_assign (ev_hit hN rfl) (reg_nil (hK21 _ _ (wp_cond_true (ev_hit hN rfl) ?_)))
  refine seq_any fun K22 hK22 => one_reg (op_move (ev_hit hN rfl) (op_assign (ev_hit hN rfl) (reg_nil (hK22 _ _ (wp_ret (blk_ret (then_ret ( ?_))))))))
  refine ret1 rfl hd (ev_hit hN rfl) ⟨_, rfl, ?_⟩
  have e9 : mustX C K e kd = (kindX C K e).2 := by unfold mustX; rw [if_pos c17]
  rw [e9]; exact ⟨hb, rfl⟩
 ·
  refine op_assign (ev_hit hN rfl) (reg_nil (hK21 _ _ (wp_cond_false (ev_hit hN rfl) (seq_any fun K23 hK23 => ?_))))
  refine one_reg (op_move (ev_hit hN rfl) (op_move (ev_base hN rfl s2) (op_neq (ev_hit hN rfl) (ev_hit hN rfl) (fun c22 => ?_) (fun c22 => ?_))))
  ·
   refine op_assign (ev_hit hN rfl) (reg_nil (hK23 _ _ ?_))
   refine wp_cond_true (ev_hit hN rfl) (seq_any fun K24 hK24 => one_reg (op_assign rfl (reg_nil (hK24 _ _ (wp_ret (blk_ret (then_ret ( ?_))))))))
   refine ret1 rfl hd (ev_hit hN rfl) ⟨_, rfl, ?_⟩
   have e9 : mustX C K e kd = 11 := by unfold mustX; rw [if_neg (fun g => g c17), if_pos c22]
   rw [e9]; exact ⟨hb, rfl⟩
  ·
   refine op_assign (ev_hit hN rfl) (reg_nil (hK23 _ _ (wp_cond_false (ev_hit hN rfl) (wp_skip ?_))))
   refine hK20 _ _ (seq_any fun K25 hK25 => one_reg (op_assign rfl (reg_nil (hK25 _ _ (wp_ret ?_)))))
   refine ret1 rfl hd (ev_hit hN rfl) ⟨_, rfl, ?_⟩
   have e9 : mustX C K e kd = 0 := by unfold mustX; rw [if_neg (fun g => g c17), if_neg (fun g => g c22)]
   rw [e9]; exact ⟨hb, rfl⟩

theorem lkWh1 {tv vv : Value} {C : List PItm} {K : List Int} {l B : Nat} {F : Nat → Prop} (e : XE) {lb : Nat} {w : World} (hB : B ≤ w.heap.size) (h : LookR w B l tv vv C K F) (hCl : C.length ≤ 2000000000) (hKl : K.length ≤ 2000000000) (he : XRd w w.heap.size e) (hlb : Bx w lb 90 [ptr l 0]) : Ret Try.prog 76 #[(Value.agg #[(Value.int .i64 e.op), (Value.int .i64 e.vk), (Value.int .i64 e.vi), (Value.string (bs e.vt)), (Value.string (bs e.tb)), (Value.string (bs e.nm)), e.av]), (ptr lb 0)] w (fun v' w' => Below w.heap.size w w' ∧ v' = .int .i64 (mustX C K e 3)) := by
 have hb := Below.refl w.heap.size w
 refine enter (N := 7) Try.func76 rfl rfl (by simp) fun a0 hN hd hA => ?_
 have s0 : a0.tmps.getD 0 undef = (Value.agg #[(Value.int .i64 e.op), (Value.int .i64 e.vk), (Value.int .i64 e.vi), (Value.string (bs e.vt)), (Value.string (bs e.tb)), (Value.string (bs e.nm)), e.av]) := hA 0 (by simp)
 have s1 : a0.tmps.getD 1 undef = (ptr lb 0) := hA 1 (by simp)
 clear hA
 refine seq_any fun K26 hK26 => one_reg (op_box (cs := [(Value.int .i64 e.op), (Value.int .i64 e.vk), (Value.int .i64 e.vi), (Value.string (bs e.vt)), (Value.string (bs e.tb)), (Value.string (bs e.nm)), e.av]) (ev_base hN rfl s0) rfl ?_)
 intro w27 b28 lo_b28 hi_b28 hB30 E29
 have z_w27 := E29.size
 have h := h.kz E29
 have he := he.keep0 E29
 have hlb := hlb.keep0 E29
 have hb := below_step0 hb E29 hb.size
 refine op_assign rfl (reg_nil (hK26 _ _ (seq_any fun K32 hK32 => one_reg (op_load1 (v := (ptr l 0)) one90 (ev_base hN rfl s1) (hlb.cell rfl) (op_loadA (cs := [(Value.int .i64 e.op), (Value.int .i64 e.vk), (Value.int .i64 e.vi), (Value.string (bs e.vt)), (Value.string (bs e.tb)), (Value.string (bs e.nm)), e.av]) agg28 rfl (ev_hit hN rfl) (fun j u hu => by rw [Nat.zero_add]; exact hB30.cell hu) ?_)))))
 refine op_fn (vs := [(ptr l 0), (Value.agg #[(Value.int .i64 e.op), (Value.int .i64 e.vk), (Value.int .i64 e.vi), (Value.string (bs e.vt)), (Value.string (bs e.tb)), (Value.string (bs e.nm)), e.av]), (Value.int .i64 3)]) ok70 ⟨(ev_hit hN rfl), ⟨(ev_hit hN rfl), ⟨rfl, trivial⟩⟩⟩ (lkMust e 3 (by omega) h hCl hKl (he.mono (by omega))) ?_
 rintro _ w33 ⟨E34, rfl⟩
 have E34 := grown_of_below E34
 have z_w33 := E34.size
 have hlb := hlb.keep0 E34
 have hb := below_step0 hb E34 hb.size
 refine op_assign (ev_hit hN rfl) (reg_nil (hK32 _ _ (wp_ret ?_)))
 refine ret1 rfl hd (ev_hit hN rfl) ⟨_, rfl, ?_⟩
 exact ⟨hb, rfl⟩

theorem lkWhere {tv vv : Value} {C : List PItm} {K : List Int} {l B : Nat} {F : Nat → Prop} {v : Value} {E : List XE} {w : World} (hB : B ≤ w.heap.size) (h : LookR w B l tv vv C K F) (hCl : C.length ≤ 2000000000) (hKl : K.length ≤ 2000000000) (hX : XsRd w w.heap.size v E) : Ret Try.prog 46 #[(ptr l 0), v] w (fun v' w' => Below w.heap.size w w' ∧ v' = .int .i64 (whereX C K E)) := by
 have hR := hX.1
 have hltl := fun k hk => (h.lt k hk).2
 have hb := Below.refl w.heap.size w
 refine enter (N := 8) Try.func46 rfl rfl (by simp) fun a0 hN hd hA => ?_
 have s0 : a0.tmps.getD 0 undef = (ptr l 0) := hA 0 (by simp)
 have s1 : a0.tmps.getD 1 undef = v := hA 1 (by simp)
 clear hA
 refine seq_any fun K35 hK35 => one_reg (op_box (cs := [(ptr l 0)]) (ev_base hN rfl s0) rfl ?_)
 intro w36 b37 lo_b37 hi_b37 hB39 E38
 have z_w36 := E38.size
 have h := h.kz E38
 have hX := hX.keep0 E38
 have hb := below_step0 hb E38 hb.size
 refine op_assign rfl (reg_nil (hK35 _ _ (seq_any fun K41 hK41 => one_reg (op_move (ev_base hN rfl s1) (op_mkfn (cv := [(ptr b37 0)]) ⟨(ev_hit hN rfl), trivial⟩ ?_)))))
 refine op_fn (vs := [v, (Value.func (.func 76) #[] #[(ptr b37 0)])]) ok31 ⟨(ev_hit hN rfl), ⟨(ev_hit hN rfl), trivial⟩⟩ (FoldX (g := 76) (fs := []) (cs := [(ptr b37 0)]) (R := (fun e => mustX C K e 3)) (hX.mono (by omega)) ok76 (fun i hi w1 E9 => lkWh1 (E.getD i default) (by have := E9.size; omega) (h.keepG (Gr.of0 (grown_of_below E9) NoB) (fun _ _ h => h)) hCl hKl (((hX.2 _ (getD_mem hi)).keep0 (grown_of_below E9)).mono (by have := E9.size; omega)) (hB39.keep0 (grown_of_below E9)))) ?_
 rintro _ w42 ⟨E43, rfl⟩
 have E43 := grown_of_below E43
 have z_w42 := E43.size
 have hb := below_step0 hb E43 hb.size
 refine op_assign (ev_hit hN rfl) (reg_nil (hK41 _ _ (wp_ret ?_)))
 refine ret1 rfl hd (ev_hit hN rfl) ⟨_, rfl, ?_⟩
 exact ⟨hb, rfl⟩

theorem lkSel1 {tv vv : Value} {C : List PItm} {K : List Int} {l B : Nat} {F : Nat → Prop} (e : XE) {lb : Nat} {w : World} (hB : B ≤ w.heap.size) (h : LookR w B l tv vv C K F) (hCl : C.length ≤ 2000000000) (hKl : K.length ≤ 2000000000) (he : XRd w w.heap.size e) (hlb : Bx w lb 90 [ptr l 0]) : Ret Try.prog 75 #[(Value.agg #[(Value.int .i64 e.op), (Value.int .i64 e.vk), (Value.int .i64 e.vi), (Value.string (bs e.vt)), (Value.string (bs e.tb)), (Value.string (bs e.nm)), e.av]), (ptr lb 0)] w (fun v' w' => Below w.heap.size w w' ∧ v' = .int .i64 (colAt C K e.tb e.nm).2) := by
 obtain ⟨cv, kv, h0, hx, O, P, hF⟩ := h
 have hi_l := hx.lt
 have hb := Below.refl w.heap.size w
 refine enter (N := 23) Try.func75 rfl rfl (by simp) fun a0 hN hd hA => ?_
 have s0 : a0.tmps.getD 0 undef = (Value.agg #[(Value.int .i64 e.op), (Value.int .i64 e.vk), (Value.int .i64 e.vi), (Value.string (bs e.vt)), (Value.string (bs e.tb)), (Value.string (bs e.nm)), e.av]) := hA 0 (by simp)
 have s1 : a0.tmps.getD 1 undef = (ptr lb 0) := hA 1 (by simp)
 clear hA
 refine seq_any fun K44 hK44 => one_reg (op_box (cs := [(Value.int .i64 e.op), (Value.int .i64 e.vk), (Value.int .i64 e.vi), (Value.string (bs e.vt)), (Value.string (bs e.tb)), (Value.string (bs e.nm)), e.av]) (ev_base hN rfl s0) rfl ?_)
 intro w45 b46 lo_b46 hi_b46 hB48 E47
 have z_w45 := E47.size
 have hx := hx.keep0 E47
 have O := O.keep0 E47
 have P := P.keep0 E47
 have hlb := hlb.keep0 E47
 have hb := below_step0 hb E47 hb.size
 refine op_assign rfl (reg_nil (hK44 _ _ (seq_any fun K49 hK49 => reg_from mixed ?_)))
 intro w51 E50
 have z_w51 := E50.size
 have hx := hx.keep0 E50
 have O := O.keep0 E50
 have P := P.keep0 E50
 have hlb := hlb.keep0 E50
 have hB48 := hB48.keep0 E50
 have hb := below_step0 hb E50 hb.size
 refine from_still (m := 12) 12 (hd := [_, _, _, _, _, _, _, _, _, _, _, _]) (by kernel_rfl) rfl rfl ?_
 refine st_step rfl (fun _ h9 => op_load1 (v := (ptr l 0)) one90 (ev_base hN rfl s1) (hlb.cell rfl) h9) ?_
 refine st_step rfl (fun _ h9 => op_nil (ev_hit hN rfl) h9) ?_
 refine st_step rfl (fun _ h9 => op_field fld92_1 (ev_hit hN rfl) h9) ?_
 refine st_step rfl (fun _ h9 => op_load1 (v := cv) one22 (ev_hit hN rfl) (hx.cell rfl) h9) ?_
 refine st_step rfl (fun _ h9 => op_load1 (v := (ptr l 0)) one90 (ev_base hN rfl s1) (hlb.cell rfl) h9) ?_
 refine st_step rfl (fun _ h9 => op_nil (ev_hit hN rfl) h9) ?_
 refine st_step rfl (fun _ h9 => op_field fld92_2 (ev_hit hN rfl) h9) ?_
 refine st_step rfl (fun _ h9 => op_load1 (v := kv) one23 (ev_hit hN rfl) (hx.cell rfl) h9) ?_
 refine st_step rfl (fun _ h9 => op_field fld28_2 (ev_hit hN rfl) h9) ?_
 refine st_step rfl (fun _ h9 => op_load1 (v := (Value.string (bs e.tb))) one9 (ev_hit hN rfl) (hB48.cell rfl) h9) ?_
 refine st_step rfl (fun _ h9 => op_field fld28_3 (ev_hit hN rfl) h9) ?_
 refine st_step rfl (fun _ h9 => op_load1 (v := (Value.string (bs e.nm))) one9 (ev_hit hN rfl) (hB48.cell rfl) h9) ?_
 refine st_nil ?_
 refine from_one (k' := 13) (by kernel_rfl) rfl rfl ?_
 refine op_fn (vs := [cv, kv, (Value.string (bs e.tb)), (Value.string (bs e.nm))]) ok66 ⟨(ev_hit hN rfl), ⟨(ev_hit hN rfl), ⟨(ev_hit hN rfl), ⟨(ev_hit hN rfl), trivial⟩⟩⟩⟩ (column_ret C K _ _ e.tb e.nm _ (by first | assumption | omega | (simp only [List.length_append, List.length_cons, List.length_nil, List.length_drop, List.length_take]; omega) | (dsimp only; omega) | decide | (simp [keyV, be8_len]; done)) (by first | assumption | omega | (simp only [List.length_append, List.length_cons, List.length_nil, List.length_drop, List.length_take]; omega) | (dsimp only; omega) | decide | (simp [keyV, be8_len]; done)) (O.rdw.mono (Nat.zero_le _) (by omega)) (P.rdw.mono (Nat.zero_le _) (by omega))) ?_
 rintro _ w52 ⟨E53, rfl⟩
 have E53 := grown_of_below E53
 have z_w52 := E53.size
 have hlb := hlb.keep0 E53
 have hb := below_step0 hb E53 hb.size
 refine from_next ?_
 refine from_still (m := 18) 5 (hd := [_, _, _, _, _]) (by kernel_rfl) rfl rfl ?_
 refine st_step rfl (fun _ h9 => op_move (ev_hit hN rfl) h9) ?_
 refine st_step rfl (fun _ h9 => op_extract (ev_hit hN rfl) rfl h9) ?_
 refine st_step rfl (fun _ h9 => op_extract (ev_hit hN rfl) rfl h9) ?_
 refine st_step rfl (fun _ h9 => op_assign (ev_hit hN rfl) h9) ?_
 refine st_step rfl (fun _ h9 => op_assign (ev_hit hN rfl) h9) ?_
 refine st_nil ?_
 refine from_end ?_ rfl
 refine hK49 _ _ ?_
 refine seq_any fun K54 hK54 => one_reg (op_move (ev_hit hN rfl) (op_assign (ev_hit hN rfl) (reg_nil (hK54 _ _ (wp_ret ?_)))))
 refine ret1 rfl hd (ev_hit hN rfl) ⟨_, rfl, ?_⟩
 exact ⟨hb, rfl⟩

theorem lkItem {tv vv : Value} {C : List PItm} {K : List Int} {l B : Nat} {F : Nat → Prop} (x : PItm) {w : World} (hB : B ≤ w.heap.size) (h : LookR w B l tv vv C K F) (hCl : C.length ≤ 2000000000) (hKl : K.length ≤ 2000000000) : Ret Try.prog 73 #[(ptr l 0), (Value.agg #[(Value.int .i64 x.agg), (Value.string (bs x.tb)), (Value.string (bs x.nm))])] w (fun v' w' => Below w.heap.size w w' ∧ v' = .int .i64 (itemE C K x)) := by
 obtain ⟨cv, kv, h0, hx, O, P, hF⟩ := h
 have hi_l := hx.lt
 have hb := Below.refl w.heap.size w
 refine enter (N := 54) Try.func73 rfl rfl (by simp) fun a0 hN hd hA => ?_
 have s0 : a0.tmps.getD 0 undef = (ptr l 0) := hA 0 (by simp)
 have s1 : a0.tmps.getD 1 undef = (Value.agg #[(Value.int .i64 x.agg), (Value.string (bs x.tb)), (Value.string (bs x.nm))]) := hA 1 (by simp)
 clear hA
 refine seq_any fun K55 hK55 => one_reg (op_box (cs := [(Value.int .i64 x.agg), (Value.string (bs x.tb)), (Value.string (bs x.nm))]) (ev_base hN rfl s1) rfl ?_)
 intro w56 b57 lo_b57 hi_b57 hB59 E58
 have z_w56 := E58.size
 have hx := hx.keep0 E58
 have O := O.keep0 E58
 have P := P.keep0 E58
 have hb := below_step0 hb E58 hb.size
 refine op_assign rfl (reg_nil (hK55 _ _ (seq_any fun K60 hK60 => reg_from mixed ?_)))
 intro w62 E61
 have z_w62 := E61.size
 have hx := hx.keep0 E61
 have O := O.keep0 E61
 have P := P.keep0 E61
 have hB59 := hB59.keep0 E61
 have hb := below_step0 hb E61 hb.size
 refine from_still (m := 12) 12 (hd := [_, _, _, _, _, _, _, _, _, _, _, _]) (by kernel_rfl) rfl rfl ?_
 refine st_step rfl (fun _ h9 => op_move (ev_base hN rfl s0) h9) ?_
 refine st_step rfl (fun _ h9 => op_nil (ev_hit hN rfl) h9) ?_
 refine st_step rfl (fun _ h9 => op_field fld92_1 (ev_hit hN rfl) h9) ?_
 refine st_step rfl (fun _ h9 => op_load1 (v := cv) one22 (ev_hit hN rfl) (hx.cell rfl) h9) ?_
 refine st_step rfl (fun _ h9 => op_move (ev_base hN rfl s0) h9) ?_
 refine st_step rfl (fun _ h9 => op_nil (ev_hit hN rfl) h9) ?_
 refine st_step rfl (fun _ h9 => op_field fld92_2 (ev_hit hN rfl) h9) ?_
 refine st_step rfl (fun _ h9 => op_load1 (v := kv) one23 (ev_hit hN rfl) (hx.cell rfl) h9) ?_
 refine st_step rfl (fun _ h9 => op_field fld63_1 (ev_hit hN rfl) h9) ?_
 refine st_step rfl (fun _ h9 => op_load1 (v := (Value.string (bs x.tb))) one9 (ev_hit hN rfl) (hB59.cell rfl) h9) ?_
 refine st_step rfl (fun _ h9 => op_field fld63_2 (ev_hit hN rfl) h9) ?_
 refine st_step rfl (fun _ h9 => op_load1 (v := (Value.string (bs x.nm))) one9 (ev_hit hN rfl) (hB59.cell rfl) h9) ?_
 refine st_nil ?_
 refine from_one (k' := 13) (by kernel_rfl) rfl rfl ?_
 refine op_fn (vs := [cv, kv, (Value.string (bs x.tb)), (Value.string (bs x.nm))]) ok66 ⟨(ev_hit hN rfl), ⟨(ev_hit hN rfl), ⟨(ev_hit hN rfl), ⟨(ev_hit hN rfl), trivial⟩⟩⟩⟩ (column_ret C K _ _ x.tb x.nm _ (by first | assumption | omega | (simp only [List.length_append, List.length_cons, List.length_nil, List.length_drop, List.length_take]; omega) | (dsimp only; omega) | decide | (simp [keyV, be8_len]; done)) (by first | assumption | omega | (simp only [List.length_append, List.length_cons, List.length_nil, List.length_drop, List.length_take]; omega) | (dsimp only; omega) | decide | (simp [keyV, be8_len]; done)) (O.rdw.mono (Nat.zero_le _) (by omega)) (P.rdw.mono (Nat.zero_le _) (by omega))) ?_
 rintro _ w63 ⟨E64, rfl⟩
 have E64 := grown_of_below E64
 have z_w63 := E64.size
 have hB59 := hB59.keep0 E64
 have hb := below_step0 hb E64 hb.size
 refine from_next ?_
 refine from_still (m := 18) 5 (hd := [_, _, _, _, _]) (by kernel_rfl) rfl rfl ?_
 refine st_step rfl (fun _ h9 => op_move (ev_hit hN rfl) h9) ?_
 refine st_step rfl (fun _ h9 => op_extract (ev_hit hN rfl) rfl h9) ?_
 refine st_step rfl (fun _ h9 => op_extract (ev_hit hN rfl) rfl h9) ?_
 refine st_step rfl (fun _ h9 => op_assign (ev_hit hN rfl) h9) ?_
 refine st_step rfl (fun _ h9 => op_assign (ev_hit hN rfl) h9) ?_
 refine st_nil ?_
 refine from_end ?_ rfl
 refine hK60 _ _ (seq_any fun K65 hK65 => wp_block ?_)
 refine seq_any fun K66 hK66 => seq_any fun K67 hK67 => ?_
 refine one_reg (op_field fld63_0 (ev_hit hN rfl) (op_load1 (v := (Value.int .i64 x.agg)) one3 (ev_hit hN rfl) (hB59.cell rfl) (op_lss (ev_hit hN rfl) rfl (fun c26 => ?_) (fun c26 => ?_))))
 ·
  refine op_assign (ev_hit hN rfl) (reg_nil (hK67 _ _ (wp_cond_true (ev_hit hN rfl) (wp_skip (hK66 _ _ ?_)))))
  refine wp_cond_true (ev_hit hN rfl) (seq_any fun K68 hK68 => one_reg (op_assign rfl (reg_nil (hK68 _ _ (wp_ret (blk_ret (then_ret ( ?_))))))))
  refine ret1 rfl hd (ev_hit hN rfl) ⟨_, rfl, ?_⟩
  have e9 : itemE C K x = 1 := by unfold itemE; rw [if_pos (by omega)]
  rw [e9]; exact ⟨hb, rfl⟩
 ·
  refine op_assign (ev_hit hN rfl) (reg_nil (hK67 _ _ (wp_cond_false (ev_hit hN rfl) (seq_any fun K69 hK69 => ?_))))
  refine one_reg (op_field fld63_0 (ev_hit hN rfl) (op_load1 (v := (Value.int .i64 x.agg)) one3 (ev_hit hN rfl) (hB59.cell rfl) (op_gtr (ev_hit hN rfl) rfl (fun c29 => ?_) (fun c29 => ?_))))
  ·
   refine op_assign (ev_hit hN rfl) (reg_nil (hK69 _ _ (wp_cond_true (ev_hit hN rfl) (wp_skip (hK66 _ _ ?_)))))
   refine wp_cond_true (ev_hit hN rfl) (seq_any fun K70 hK70 => one_reg (op_assign rfl (reg_nil (hK70 _ _ (wp_ret (blk_ret (then_ret ( ?_))))))))
   refine ret1 rfl hd (ev_hit hN rfl) ⟨_, rfl, ?_⟩
   have e9 : itemE C K x = 1 := by unfold itemE; rw [if_pos (by omega)]
   rw [e9]; exact ⟨hb, rfl⟩
  ·
   refine op_assign (ev_hit hN rfl) ?_
   refine reg_nil (hK69 _ _ (wp_cond_false (ev_hit hN rfl) (one_reg (op_field fld63_0 (ev_hit hN rfl) (op_load1 (v := (Value.int .i64 x.agg)) one3 (ev_hit hN rfl) (hB59.cell rfl) (op_eql (ev_hit hN rfl) rfl (fun c32 => ?_) (fun c32 => ?_)))))))
   ·
    refine op_move (ev_hit hN rfl) (g_true (j := 3) (dj := 33) (b := true) rfl rfl rfl (ev_hit hN rfl) (op_field fld63_2 (ev_hit hN rfl) (g_true (j := 3) (dj := 33) (b := true) rfl rfl rfl (ev_hit hN rfl) (op_load1 (v := (Value.string (bs x.nm))) one9 (ev_hit hN rfl) (hB59.cell rfl) (g_true (j := 3) (dj := 33) (b := true) rfl rfl rfl (ev_hit hN rfl) (op_sneq (ev_hit hN rfl) rfl (fun c36 => ?_) (fun c36 => ?_)))))))
    ·
     refine op_pick_t (ev_hit hN rfl) (ev_hit hN rfl) ?_
     refine op_assign (ev_hit hN rfl) (reg_nil (hK66 _ _ ?_))
     refine wp_cond_true (ev_hit hN rfl) (seq_any fun K71 hK71 => one_reg (op_assign rfl (reg_nil (hK71 _ _ (wp_ret (blk_ret (then_ret ( ?_))))))))
     refine ret1 rfl hd (ev_hit hN rfl) ⟨_, rfl, ?_⟩
     have e9 : itemE C K x = 1 := by unfold itemE; rw [if_pos (.inr (.inr ⟨c32, c36⟩))]
     rw [e9]; exact ⟨hb, rfl⟩
    ·
     refine op_pick_t (ev_hit hN rfl) (ev_hit hN rfl) ?_
     refine op_assign (ev_hit hN rfl) (reg_nil (hK66 _ _ (wp_cond_false (ev_hit hN rfl) (seq_any fun K72 hK72 => ?_))))
     refine one_reg (op_field fld63_0 (ev_hit hN rfl) (op_load1 (v := (Value.int .i64 x.agg)) one3 (ev_hit hN rfl) (hB59.cell rfl) (op_eql (ev_hit hN rfl) rfl (fun c41 => ?_) (fun c41 => ?_))))
     ·
      refine op_assign (ev_hit hN rfl) (reg_nil (hK72 _ _ ?_))
      refine wp_cond_true (ev_hit hN rfl) (seq_any fun K73 hK73 => one_reg (op_assign rfl (reg_nil (hK73 _ _ (wp_ret (blk_ret (then_ret ( ?_))))))))
      refine ret1 rfl hd (ev_hit hN rfl) ⟨_, rfl, ?_⟩
      have e9 : itemE C K x = 0 := by unfold itemE; rw [if_neg (fun g => g.elim (fun g => by omega) fun g => g.elim (fun g => by omega) fun g => g.2 c36)]; rw [if_pos c41]
      rw [e9]; exact ⟨hb, rfl⟩
     ·
      refine op_assign (ev_hit hN rfl) (reg_nil (hK72 _ _ (wp_cond_false (ev_hit hN rfl) (seq_any fun K74 hK74 => ?_))))
      refine one_reg (op_move (ev_hit hN rfl) (op_neq (ev_hit hN rfl) rfl (fun c44 => ?_) (fun c44 => ?_)))
      ·
       refine op_assign (ev_hit hN rfl) (reg_nil (hK74 _ _ (wp_cond_true (ev_hit hN rfl) ?_)))
       refine seq_any fun K75 hK75 => one_reg (op_move (ev_hit hN rfl) (op_assign (ev_hit hN rfl) (reg_nil (hK75 _ _ (wp_ret (blk_ret (then_ret ( ?_))))))))
       refine ret1 rfl hd (ev_hit hN rfl) ⟨_, rfl, ?_⟩
       have e9 : itemE C K x = (colAt C K x.tb x.nm).2 := by unfold itemE; rw [if_neg (fun g => g.elim (fun g => by omega) fun g => g.elim (fun g => by omega) fun g => g.2 c36)]; rw [if_neg c41, if_pos c44]
       rw [e9]; exact ⟨hb, rfl⟩
      ·
       refine op_assign (ev_hit hN rfl) (reg_nil (hK74 _ _ (wp_cond_false (ev_hit hN rfl) (seq_any fun K76 hK76 => ?_))))
       refine one_reg (op_field fld63_0 (ev_hit hN rfl) (op_load1 (v := (Value.int .i64 x.agg)) one3 (ev_hit hN rfl) (hB59.cell rfl) (op_eql (ev_hit hN rfl) rfl (fun c49 => ?_) (fun c49 => ?_))))
       ·
        refine op_move (ev_hit hN rfl) (g_true (j := 3) (dj := 50) (b := true) rfl rfl rfl (ev_hit hN rfl) (op_move (ev_hit hN rfl) (g_true (j := 3) (dj := 50) (b := true) rfl rfl rfl (ev_hit hN rfl) (op_eql (ev_hit hN rfl) rfl (fun c52 => ?_) (fun c52 => ?_)))))
        ·
         refine op_pick_t (ev_hit hN rfl) (ev_hit hN rfl) ?_
         refine op_assign (ev_hit hN rfl) (reg_nil (hK76 _ _ ?_))
         refine wp_cond_true (ev_hit hN rfl) (seq_any fun K77 hK77 => one_reg (op_assign rfl (reg_nil (hK77 _ _ (wp_ret (blk_ret (then_ret ( ?_))))))))
         refine ret1 rfl hd (ev_hit hN rfl) ⟨_, rfl, ?_⟩
         have e9 : itemE C K x = 11 := by unfold itemE; rw [if_neg (fun g => g.elim (fun g => by omega) fun g => g.elim (fun g => by omega) fun g => g.2 c36)]; rw [if_neg c41, if_neg (fun g => g c44), if_pos ⟨c49, c52⟩]
         rw [e9]; exact ⟨hb, rfl⟩
        ·
         refine op_pick_t (ev_hit hN rfl) (ev_hit hN rfl) ?_
         refine op_assign (ev_hit hN rfl) (reg_nil (hK76 _ _ (wp_cond_false (ev_hit hN rfl) (wp_skip ?_))))
         refine hK65 _ _ (seq_any fun K78 hK78 => one_reg (op_assign rfl (reg_nil (hK78 _ _ (wp_ret ?_)))))
         refine ret1 rfl hd (ev_hit hN rfl) ⟨_, rfl, ?_⟩
         have e9 : itemE C K x = 0 := by unfold itemE; rw [if_neg (fun g => g.elim (fun g => by omega) fun g => g.elim (fun g => by omega) fun g => g.2 c36)]; rw [if_neg c41, if_neg (fun g => g c44), if_neg (fun g => c52 g.2)]
         rw [e9]; exact ⟨hb, rfl⟩
       ·
        refine op_move (ev_hit hN rfl) (g_false (j := 3) (dj := 50) (b := true) rfl rfl rfl (ev_hit hN rfl) rfl rfl (g_false (j := 3) (dj := 50) (b := true) rfl rfl rfl (ev_hit hN rfl) rfl rfl (op_pick_f (ev_hit hN rfl) rfl ?_)))
        refine op_assign (ev_hit hN rfl) (reg_nil (hK76 _ _ (wp_cond_false (ev_hit hN rfl) (wp_skip ?_))))
        refine hK65 _ _ (seq_any fun K79 hK79 => one_reg (op_assign rfl (reg_nil (hK79 _ _ (wp_ret ?_)))))
        refine ret1 rfl hd (ev_hit hN rfl) ⟨_, rfl, ?_⟩
        have e9 : itemE C K x = 0 := by unfold itemE; rw [if_neg (fun g => g.elim (fun g => by omega) fun g => g.elim (fun g => by omega) fun g => g.2 c36)]; rw [if_neg c41, if_neg (fun g => g c44), if_neg (fun g => c49 g.1)]
        rw [e9]; exact ⟨hb, rfl⟩
   ·
    refine op_move (ev_hit hN rfl) (g_false (j := 3) (dj := 33) (b := true) rfl rfl rfl (ev_hit hN rfl) rfl rfl (g_false (j := 3) (dj := 33) (b := true) rfl rfl rfl (ev_hit hN rfl) rfl rfl (g_false (j := 3) (dj := 33) (b := true) rfl rfl rfl (ev_hit hN rfl) rfl rfl (op_pick_f (ev_hit hN rfl) rfl ?_))))
    refine op_assign (ev_hit hN rfl) (reg_nil (hK66 _ _ (wp_cond_false (ev_hit hN rfl) (seq_any fun K80 hK80 => ?_))))
    refine one_reg (op_field fld63_0 (ev_hit hN rfl) (op_load1 (v := (Value.int .i64 x.agg)) one3 (ev_hit hN rfl) (hB59.cell rfl) (op_eql (ev_hit hN rfl) rfl (fun c41 => ?_) (fun c41 => ?_))))
    ·
     refine op_assign (ev_hit hN rfl) (reg_nil (hK80 _ _ ?_))
     refine wp_cond_true (ev_hit hN rfl) (seq_any fun K81 hK81 => one_reg (op_assign rfl (reg_nil (hK81 _ _ (wp_ret (blk_ret (then_ret ( ?_))))))))
     refine ret1 rfl hd (ev_hit hN rfl) ⟨_, rfl, ?_⟩
     have e9 : itemE C K x = 0 := by unfold itemE; rw [if_neg (fun g => g.elim (fun g => by omega) fun g => g.elim (fun g => by omega) fun g => c32 g.1)]; rw [if_pos c41]
     rw [e9]; exact ⟨hb, rfl⟩
    ·
     refine op_assign (ev_hit hN rfl) (reg_nil (hK80 _ _ (wp_cond_false (ev_hit hN rfl) (seq_any fun K82 hK82 => ?_))))
     refine one_reg (op_move (ev_hit hN rfl) (op_neq (ev_hit hN rfl) rfl (fun c44 => ?_) (fun c44 => ?_)))
     ·
      refine op_assign (ev_hit hN rfl) (reg_nil (hK82 _ _ (wp_cond_true (ev_hit hN rfl) ?_)))
      refine seq_any fun K83 hK83 => one_reg (op_move (ev_hit hN rfl) (op_assign (ev_hit hN rfl) (reg_nil (hK83 _ _ (wp_ret (blk_ret (then_ret ( ?_))))))))
      refine ret1 rfl hd (ev_hit hN rfl) ⟨_, rfl, ?_⟩
      have e9 : itemE C K x = (colAt C K x.tb x.nm).2 := by unfold itemE; rw [if_neg (fun g => g.elim (fun g => by omega) fun g => g.elim (fun g => by omega) fun g => c32 g.1)]; rw [if_neg c41, if_pos c44]
      rw [e9]; exact ⟨hb, rfl⟩
     ·
      refine op_assign (ev_hit hN rfl) (reg_nil (hK82 _ _ (wp_cond_false (ev_hit hN rfl) (seq_any fun K84 hK84 => ?_))))
      refine one_reg (op_field fld63_0 (ev_hit hN rfl) (op_load1 (v := (Value.int .i64 x.agg)) one3 (ev_hit hN rfl) (hB59.cell rfl) (op_eql (ev_hit hN rfl) rfl (fun c49 => ?_) (fun c49 => ?_))))
      ·
       refine op_move (ev_hit hN rfl) (g_true (j := 3) (dj := 50) (b := true) rfl rfl rfl (ev_hit hN rfl) (op_move (ev_hit hN rfl) (g_true (j := 3) (dj := 50) (b := true) rfl rfl rfl (ev_hit hN rfl) (op_eql (ev_hit hN rfl) rfl (fun c52 => ?_) (fun c52 => ?_)))))
       ·
        refine op_pick_t (ev_hit hN rfl) (ev_hit hN rfl) ?_
        refine op_assign (ev_hit hN rfl) (reg_nil (hK84 _ _ ?_))
        refine wp_cond_true (ev_hit hN rfl) (seq_any fun K85 hK85 => one_reg (op_assign rfl (reg_nil (hK85 _ _ (wp_ret (blk_ret (then_ret ( ?_))))))))
        refine ret1 rfl hd (ev_hit hN rfl) ⟨_, rfl, ?_⟩
        have e9 : itemE C K x = 11 := by unfold itemE; rw [if_neg (fun g => g.elim (fun g => by omega) fun g => g.elim (fun g => by omega) fun g => c32 g.1)]; rw [if_neg c41, if_neg (fun g => g c44), if_pos ⟨c49, c52⟩]
        rw [e9]; exact ⟨hb, rfl⟩
       ·
        refine op_pick_t (ev_hit hN rfl) (ev_hit hN rfl) ?_
        refine op_assign (ev_hit hN rfl) (reg_nil (hK84 _ _ (wp_cond_false (ev_hit hN rfl) (wp_skip ?_))))
        refine hK65 _ _ (seq_any fun K86 hK86 => one_reg (op_assign rfl (reg_nil (hK86 _ _ (wp_ret ?_)))))
        refine ret1 rfl hd (ev_hit hN rfl) ⟨_, rfl, ?_⟩
        have e9 : itemE C K x = 0 := by unfold itemE; rw [if_neg (fun g => g.elim (fun g => by omega) fun g => g.elim (fun g => by omega) fun g => c32 g.1)]; rw [if_neg c41, if_neg (fun g => g c44), if_neg (fun g => c52 g.2)]
        rw [e9]; exact ⟨hb, rfl⟩
      ·
       refine op_move (ev_hit hN rfl) (g_false (j := 3) (dj := 50) (b := true) rfl rfl rfl (ev_hit hN rfl) rfl rfl (g_false (j := 3) (dj := 50) (b := true) rfl rfl rfl (ev_hit hN rfl) rfl rfl (op_pick_f (ev_hit hN rfl) rfl ?_)))
       refine op_assign (ev_hit hN rfl) (reg_nil (hK84 _ _ (wp_cond_false (ev_hit hN rfl) (wp_skip ?_))))
       refine hK65 _ _ (seq_any fun K87 hK87 => one_reg (op_assign rfl (reg_nil (hK87 _ _ (wp_ret ?_)))))
       refine ret1 rfl hd (ev_hit hN rfl) ⟨_, rfl, ?_⟩
       have e9 : itemE C K x = 0 := by unfold itemE; rw [if_neg (fun g => g.elim (fun g => by omega) fun g => g.elim (fun g => by omega) fun g => c32 g.1)]; rw [if_neg c41, if_neg (fun g => g c44), if_neg (fun g => c49 g.1)]
       rw [e9]; exact ⟨hb, rfl⟩

theorem colsK1 (e : XE) {w : World} (he : XRd w w.heap.size e) : Ret Try.prog 98 #[(Value.agg #[(Value.int .i64 e.op), (Value.int .i64 e.vk), (Value.int .i64 e.vi), (Value.string (bs e.vt)), (Value.string (bs e.tb)), (Value.string (bs e.nm)), e.av])] w (fun v' w' => Below w.heap.size w w' ∧ v' = .int .i64 (if e.op = 2 ∧ e.args.length = 0 then 0 else 1)) := by
 have hR := he.list.1
 have hb := Below.refl w.heap.size w
 refine enter (N := 12) Try.func98 rfl rfl (by simp) fun a0 hN hd hA => ?_
 have s0 : a0.tmps.getD 0 undef = (Value.agg #[(Value.int .i64 e.op), (Value.int .i64 e.vk), (Value.int .i64 e.vi), (Value.string (bs e.vt)), (Value.string (bs e.tb)), (Value.string (bs e.nm)), e.av]) := hA 0 (by simp)
 clear hA
 refine seq_any fun K88 hK88 => one_reg (op_box (cs := [(Value.int .i64 e.op), (Value.int .i64 e.vk), (Value.int .i64 e.vi), (Value.string (bs e.vt)), (Value.string (bs e.tb)), (Value.string (bs e.nm)), e.av]) (ev_base hN rfl s0) rfl ?_)
 intro w89 b90 lo_b90 hi_b90 hB92 E91
 have z_w89 := E91.size
 have hR := hR.keep0 E91
 have hb := below_step0 hb E91 hb.size
 refine op_assign rfl (reg_nil (hK88 _ _ (seq_any fun K93 hK93 => seq_any fun K94 hK94 => ?_)))
 refine one_reg (op_field fld28_0 (ev_hit hN rfl) (op_load1 (v := (Value.int .i64 e.op)) one3 (ev_hit hN rfl) (hB92.cell rfl) (op_neq (ev_hit hN rfl) rfl (fun c5 => ?_) (fun c5 => ?_))))
 ·
  refine op_move (ev_hit hN rfl) (g_false (j := 3) (dj := 6) (b := false) rfl rfl rfl (ev_hit hN rfl) rfl rfl (g_false (j := 3) (dj := 6) (b := false) rfl rfl rfl (ev_hit hN rfl) rfl rfl (g_false (j := 3) (dj := 6) (b := false) rfl rfl rfl (ev_hit hN rfl) rfl rfl (g_false (j := 3) (dj := 6) (b := false) rfl rfl rfl (ev_hit hN rfl) rfl rfl (op_pick_t (ev_hit hN rfl) rfl ?_)))))
  refine reg_nil (hK94 _ _ ?_)
  refine wp_cond_true (ev_hit hN rfl) (seq_any fun K95 hK95 => one_reg (op_assign rfl (reg_nil (hK95 _ _ (wp_ret (then_ret ( ?_)))))))
  refine ret1 rfl hd (ev_hit hN rfl) ⟨_, rfl, ?_⟩
  rw [if_neg (fun g => c5 g.1)]; exact ⟨hb, rfl⟩
 ·
  refine op_move (ev_hit hN rfl) (g_true (j := 3) (dj := 6) (b := false) rfl rfl rfl (ev_hit hN rfl) (op_field fld28_4 (ev_hit hN rfl) (g_true (j := 3) (dj := 6) (b := false) rfl rfl rfl (ev_hit hN rfl) (op_load1 (v := e.av) one26 (ev_hit hN rfl) (hB92.cell rfl) (g_true (j := 3) (dj := 6) (b := false) rfl rfl rfl (ev_hit hN rfl) (op_len_rd Try.underlying26 (ev_hit hN rfl) hR ?_))))))
  refine g_true (j := 3) (dj := 6) (b := false) rfl rfl rfl (ev_hit hN rfl) (op_gtr (ev_hit hN rfl) rfl (fun c10 => ?_) (fun c10 => ?_))
  ·
   refine op_pick_f (ev_hit hN rfl) (ev_hit hN rfl) ?_
   refine reg_nil (hK94 _ _ ?_)
   refine wp_cond_true (ev_hit hN rfl) (seq_any fun K96 hK96 => one_reg (op_assign rfl (reg_nil (hK96 _ _ (wp_ret (then_ret ( ?_)))))))
   refine ret1 rfl hd (ev_hit hN rfl) ⟨_, rfl, ?_⟩
   rw [if_neg (fun g => by omega)]; exact ⟨hb, rfl⟩
  ·
   refine op_pick_f (ev_hit hN rfl) (ev_hit hN rfl) ?_
   refine reg_nil (hK94 _ _ (wp_cond_false (ev_hit hN rfl) (wp_skip ?_)))
   refine hK93 _ _ (seq_any fun K97 hK97 => one_reg (op_assign rfl (reg_nil (hK97 _ _ (wp_ret ?_)))))
   refine ret1 rfl hd (ev_hit hN rfl) ⟨_, rfl, ?_⟩
   rw [if_pos ⟨Classical.not_not.1 (fun g => g c5), by omega⟩]; exact ⟨hb, rfl⟩

theorem cols_ret {v : Value} {E : List XE} {w : World} (hX : XsRd w w.heap.size v E) : Ret Try.prog 68 #[v] w (fun v' w' => Below w.heap.size w w' ∧ v' = .bool (colsOk E)) := by
 have hR := hX.1
 have hb := Below.refl w.heap.size w
 refine enter (N := 6) Try.func68 rfl rfl (by simp) fun a0 hN hd hA => ?_
 have s0 : a0.tmps.getD 0 undef = v := hA 0 (by simp)
 clear hA
 refine seq_any fun K98 hK98 => one_reg (op_assign rfl (reg_nil (hK98 _ _ (seq_any fun K99 hK99 => ?_))))
 refine one_reg (op_move (ev_base hN rfl s0) (op_fn (vs := [v, (Value.func (.func 98) #[] #[])]) ok31 ⟨(ev_hit hN rfl), ⟨rfl, trivial⟩⟩ (FoldX (g := 98) (fs := []) (cs := []) (R := (fun e : XE => if e.op = 2 ∧ e.args.length = 0 then (0 : Int) else 1)) (hX.mono (by omega)) ok98 (fun i hi w1 E9 => colsK1 (E.getD i default) (((hX.2 _ (getD_mem hi)).keep0 (grown_of_below E9)).mono (by have := E9.size; omega)))) ?_))
 rintro _ w100 ⟨E101, rfl⟩
 have E101 := grown_of_below E101
 have z_w100 := E101.size
 have hb := below_step0 hb E101 hb.size
 refine op_eql (ev_hit hN rfl) rfl (fun c5 => ?_) (fun c5 => ?_)
 ·
  refine op_assign (ev_hit hN rfl) (reg_nil (hK99 _ _ (wp_ret ?_)))
  refine ret1 rfl hd (ev_hit hN rfl) ⟨_, rfl, ?_⟩
  exact ⟨hb, congrArg Value.bool (cols_t c5).symm⟩
 ·
  refine op_assign (ev_hit hN rfl) (reg_nil (hK99 _ _ (wp_ret ?_)))
  refine ret1 rfl hd (ev_hit hN rfl) ⟨_, rfl, ?_⟩
  exact ⟨hb, congrArg Value.bool (cols_f c5).symm⟩

theorem aggs_ret {l : List PItm} {v : Value} {w : World} (hl : RdC w 0 w.heap.size 3 v l.length (l.flatMap cellsI)) : Ret Try.prog 74 #[v] w (fun v' w' => Below w.heap.size w w' ∧ v' = .int .i64 ((aggsN l : Nat) : Int)) := by
 have hlm := rd_len hl
 have hb := Below.refl w.heap.size w
 refine enter (N := 19) Try.func74 rfl rfl (by simp) fun a0 hN hd hA => ?_
 have s0 : a0.tmps.getD 0 undef = v := hA 0 (by simp)
 clear hA
 refine seq_any fun K102 hK102 => ?_
 refine one_reg (op_assign rfl (reg_nil (hK102 _ _ (seq_any fun K103 hK103 => one_reg (op_assign rfl ?_)))))
 refine reg_nil (hK103 _ _ (seq_any fun K104 hK104 => seq_any fun K105 hK105 => one_reg (op_move (ev_base hN rfl s0) (op_len_rd Try.underlying22 (ev_hit hN rfl) hl ?_))))
 refine op_move rfl (reg_nil (hK105 _ _ (wp_block ?_)))
 refine loop_m (fun mz_ az_ w' => ∃ (i : Nat), mz_ = l.length - i ∧ (az_.tmps.getD 2 undef = (Value.int .i64 0)) ∧ (az_.tmps.getD 6 undef = v) ∧ (az_.tmps.getD 7 undef = (Value.int .i64 ((l.length : Nat) : Int))) ∧ (az_.tmps.getD 8 undef = (Value.int .i64 ((i : Nat) : Int))) ∧ (az_.tmps.getD 3 undef = (Value.int .i64 ((aggsN (l.take i) : Nat) : Int))) ∧ (i ≤ l.length) ∧ (Below w.heap.size w w') ∧ (w.heap.size ≤ w'.heap.size) ∧ (RdC w' 0 w.heap.size 3 v l.length (l.flatMap cellsI))) _ hN hd ⟨0, rfl, (sl_hit hN rfl), (sl_hit hN rfl), (sl_hit hN rfl), (sl_hit hN rfl), (sl_hit hN rfl).trans rfl, (Nat.zero_le _), hb, (Nat.le_refl _), hl⟩ ?_
 rintro _ a106 w106 hN106 hd106 ⟨i, rfl, s106_2, s106_6, s106_7, s106_8, s106_3, hi, hb, zl_w106, hl⟩
 have z_w106 := hb.size
 refine seq_any fun K107 hK107 => ?_
 refine one_reg (op_lss (ev_base hN106 rfl s106_8) (ev_base hN106 rfl s106_7) (fun c9 => ?_) (fun c9 => ?_))
 ·
  refine reg_nil ?_
  refine hK107 _ _ (seq_any fun K108 hK108 => wp_cond_true (ev_hit hN106 rfl) (wp_skip (hK108 _ _ (seq_any fun K109 hK109 => wp_block ?_))))
  refine seq_any fun K110 hK110 => one_reg (op_index_rd slt22 (ev_base hN106 rfl s106_6) hl (ev_base hN106 rfl s106_8) (by omega) (by omega) ?_)
  intro b111 o112 h0b111 h1b111 hc113
  refine op_loadA (cs := [(Value.int .i64 (l.getD i default).agg), (Value.string (bs (l.getD i default).tb)), (Value.string (bs (l.getD i default).nm))]) agg63 rfl (ev_hit hN106 rfl) (fun j u hu => hc113 j u (by have := (List.getElem?_eq_some_iff.1 hu).1; simpa using this) ((el_pi (i := i) (by omega) (by omega)) j u hu)) ?_
  refine op_alloc (cs := [(Value.int .i64 0), (Value.string (bs [])), (Value.string (bs []))]) zero63 rfl ?_
  intro w114 b115 lo_b115 hi_b115 hB117 E116
  have z_w114 := E116.size
  have hl := hl.keep0 E116
  have hb := below_step0 hb E116 hb.size
  refine op_store (vs := [(Value.int .i64 (l.getD i default).agg), (Value.string (bs (l.getD i default).tb)), (Value.string (bs (l.getD i default).nm))]) (cs' := [(Value.int .i64 (l.getD i default).agg), (Value.string (bs (l.getD i default).tb)), (Value.string (bs (l.getD i default).nm))]) size63 (ev_hit hN106 rfl) (ev_hit hN106 rfl) rfl rfl rfl hB117 (Nat.le_of_ble_eq_true rfl) rfl ?_
  intro w120 hB117 E121
  have z_w120 := E121.size
  have hl := hl.keep E121 (fun k hk => .inr (by simp at hk; omega))
  have hb := below_step1 hb E121 hb.size (by omega)
  refine reg_nil (hK110 _ _ (seq_any fun K122 hK122 => ?_))
  refine one_reg (op_field fld63_0 (ev_hit hN106 rfl) (op_load1 (v := (Value.int .i64 (l.getD i default).agg)) one3 (ev_hit hN106 rfl) (hB117.cell rfl) (op_neq (ev_hit hN106 rfl) rfl (fun c14 => ?_) (fun c14 => ?_))))
  ·
   refine reg_nil (hK122 _ _ (wp_cond_true (ev_hit hN106 rfl) (one_reg ?_)))
   have hag := aggs_le (l.take i)
   rw [List.length_take] at hag
   refine op_move (ev_base hN106 rfl s106_3) (op_add (ev_hit hN106 rfl) rfl (add64 (by omega)) ?_)
   refine op_assign (ev_hit hN106 rfl) (reg_nil (hK109 _ _ (one_reg (op_add (ev_base hN106 rfl s106_8) rfl (add64 (by omega)) ?_))))
   refine op_move (ev_hit hN106 rfl) (reg_nil ?_)
   -- round 9T 14T
   exact loop_next _ hN106 hd106 ⟨(i + 1), rfl, (sl_base hN106 rfl s106_2), (sl_base hN106 rfl s106_6), (sl_base hN106 rfl s106_7), (sl_hit hN106 rfl).trans (congrArg (Value.int .i64) (by omega)), (sl_hit hN106 rfl).trans (congrArg (Value.int .i64) (by rw [aggs_t (by omega) c14]; omega)), (by omega), hb, (by omega), hl⟩ (by omega)
  ·
   refine reg_nil (hK122 _ _ (wp_cond_false (ev_hit hN106 rfl) (wp_skip (hK109 _ _ (one_reg (op_add (ev_base hN106 rfl s106_8) rfl (add64 (by omega)) ?_))))))
   refine op_move (ev_hit hN106 rfl) (reg_nil ?_)
   -- round 9T 14F
   exact loop_next _ hN106 hd106 ⟨(i + 1), rfl, (sl_base hN106 rfl s106_2), (sl_base hN106 rfl s106_6), (sl_base hN106 rfl s106_7), (sl_hit hN106 rfl).trans (congrArg (Value.int .i64) (by omega)), (sl_base hN106 rfl s106_3).trans (congrArg (Value.int .i64) (by rw [aggs_f (by omega) c14])), (by omega), hb, (by omega), hl⟩ (by omega)
 ·
  refine reg_nil (hK107 _ _ (seq_any fun K123 hK123 => wp_cond_false (ev_hit hN106 rfl) (wp_exit (then_exit (then_exit (blk_hit ?_))))))
  refine hK104 _ _ ?_
  refine seq_any fun K124 hK124 => one_reg (op_move (ev_base hN106 rfl s106_3) (op_assign (ev_hit hN106 rfl) (reg_nil (hK124 _ _ (wp_ret ?_)))))
  refine ret1 rfl hd106 (ev_hit hN106 rfl) ⟨_, rfl, ?_⟩
  exact ⟨hb, congrArg (Value.int .i64) (by rw [List.take_of_length_le (by omega)])⟩

theorem lkJoin {tv : Value} {D : List DTab} {C : List PItm} {K : List Int} {l B : Nat} {F : Nat → Prop} {f : StF} {nv : Value} {w : World} (hT : TsRd w B tv D) (hD : D.length ≤ 1000000) (hsz : ∀ d ∈ D, d.t.cols.length ≤ 1000000 ∧ d.t.idx.length ≤ 1000000) (hB : B ≤ w.heap.size) (h : LookR w B l tv (.slice none 0 0) C K F) (hCl : C.length ≤ 1000000) (hKl : K.length ≤ 1000000) (hfo : XsRd w B f.ov f.on) (hon : ¬ f.join = [] → f.on.length = 2) : Ret Try.prog 71 #[(ptr l 0), (Value.agg #[(Value.int .i64 f.kind), (Value.string (bs f.tb)), (Value.string (bs f.nm)), f.cv, f.gv, f.vv, f.iv, (Value.string (bs f.join)), f.ov, f.wv, f.rv, (Value.bool f.desc), nv])] w (fun v' w' => Gr w w' F ∧ v' = .int .i64 (joinE (D.map DTab.t) f C K) ∧ ∃ C' K' F', LookR w' B l tv (.slice none 0 0) C' K' F' ∧ NewF w.heap.size F F' ∧ (joinE (D.map DTab.t) f C K = 0 → C' = joinC (D.map DTab.t) f C ∧ K' = joinK (D.map DTab.t) f K)) := by
 have hR := hT.1
 have hltl := fun k hk => (h.lt k hk).2
 have hfoR := hfo.1
 have hsz9 : ∀ t ∈ D.map DTab.t, t.cols.length ≤ 1000000 ∧ t.idx.length ≤ 1000000 := fun t ht => by obtain ⟨d, hd, rfl⟩ := List.mem_map.1 ht; exact hsz d hd
 have hb := Gr.refl w F
 refine enter (N := 46) Try.func71 rfl rfl (by simp) fun a0 hN hd hA => ?_
 have s0 : a0.tmps.getD 0 undef = (ptr l 0) := hA 0 (by simp)
 have s1 : a0.tmps.getD 1 undef = (Value.agg #[(Value.int .i64 f.kind), (Value.string (bs f.tb)), (Value.string (bs f.nm)), f.cv, f.gv, f.vv, f.iv, (Value.string (bs f.join)), f.ov, f.wv, f.rv, (Value.bool f.desc), nv]) := hA 1 (by simp)
 clear hA
 refine seq_any fun K1 hK1 => one_reg (op_box (cs := [(Value.int .i64 f.kind), (Value.string (bs f.tb)), (Value.string (bs f.nm)), f.cv, f.gv, f.vv, f.iv, (Value.string (bs f.join)), f.ov, f.wv, f.rv, (Value.bool f.desc), nv]) (ev_base hN rfl s1) rfl ?_)
 intro w2 b3 lo_b3 hi_b3 hB5 E4
 have dj6 : ¬ F b3 := fun hf => by have := (h.lt _ hf).2; omega
 have z_w2 := E4.size
 have hT := hT.keep0 E4
 have h := h.kz E4
 have hfo := hfo.keep0 E4
 have hfoR := hfoR.keep0 E4
 have hb := hb.step0 E4
 refine op_assign rfl (reg_nil (hK1 _ _ (seq_any fun K7 hK7 => seq_any fun K8 hK8 => ?_)))
 refine one_reg (op_field fld45_7 (ev_hit hN rfl) (op_load1 (v := (Value.string (bs f.join))) one9 (ev_hit hN rfl) (hB5.cell rfl) (op_seql (ev_hit hN rfl) rfl (fun c11 => ?_) (fun c11 => ?_))))
 ·
  refine reg_nil (hK8 _ _ ?_)
  refine wp_cond_true (ev_hit hN rfl) (seq_any fun K9 hK9 => one_reg (op_assign rfl (reg_nil (hK9 _ _ (wp_ret (then_ret ( ?_)))))))
  refine ret1 rfl hd (ev_hit hN rfl) ⟨_, rfl, ?_⟩
  obtain ⟨e1, e2, e3⟩ := @joinE_0 (D.map DTab.t) f C K c11
  rw [e1]; exact ⟨hb, rfl, C, K, _, h, (NewF.refl _ _), fun _ => ⟨e2.symm, e3.symm⟩⟩
 ·
  refine reg_nil (hK8 _ _ (wp_cond_false (ev_hit hN rfl) (wp_skip ?_)))
  refine hK7 _ _ (seq_any fun K10 hK10 => seq_any fun K11 hK11 => one_reg (op_move (ev_base hN rfl s0) (op_field fld45_7 (ev_hit hN rfl) (op_load1 (v := (Value.string (bs f.join))) one9 (ev_hit hN rfl) (hB5.cell rfl) ?_))))
  rcases Bool.eq_false_or_eq_true ((tabAt (D.map DTab.t) f.join).isSome) with k16 | k16
  ·
   refine op_fn (vs := [(ptr l 0), (Value.string (bs f.join))]) ok45 ⟨(ev_hit hN rfl), ⟨(ev_hit hN rfl), trivial⟩⟩ (lookTableT k16 (hT.mono (by omega)) hD hsz (by omega) h (by omega) (by omega)) ?_
   rintro _ w13 ⟨E14, d12, rfl, ht12, hO12, hP12, F12, hL12, hN12⟩
   have bd17 := hB5.lt
   have h_old := h
   have z_w13 := E14.size
   have hfo := hfo.keepG E14 (fun k hk => .inr (by have := h_old.lt k hk; omega))
   have hfoR := hfoR.keepG E14 (fun k hk => .inr (by have := h_old.lt k hk; omega))
   have hB5 := hB5.keepG E14 dj6
   have hb := hb.stepF E14 (fun _ _ q => q)
   have hO12 := hO12.mono (base' := w.heap.size) (by omega)
   have hP12 := hP12.mono (base' := w.heap.size) (by omega)
   refine op_move (ev_hit hN rfl) (op_extract (ev_hit hN rfl) rfl ?_)
   refine op_extract (ev_hit hN rfl) rfl ?_
   refine op_alloc (cs := [(Value.string (bs [])), (Value.slice none 0 0), (Value.slice none 0 0)]) zero55 rfl ?_
   intro w19 b20 lo_b20 hi_b20 hB22 E21
   have dj23 : ¬ F12 b20 := fun hf => by have := (hL12.lt _ hf).2; omega
   have z_w19 := E21.size
   have hfo := hfo.keep0 E21
   have hfoR := hfoR.keep0 E21
   have hB5 := hB5.keep0 E21
   have hL12 := hL12.kz E21
   have hO12 := hO12.keep0 E21
   have hP12 := hP12.keep0 E21
   have hb := hb.step0 E21
   have hB22_old := hB22
   refine op_store (vs := [(Value.string (bs d12.t.nm)), d12.cv, d12.iv]) (cs' := [(Value.string (bs d12.t.nm)), d12.cv, d12.iv]) size55 (ev_hit hN rfl) (ev_hit hN rfl) rfl rfl (by simp only [List.all_cons, List.all_nil, Bool.true_and, Bool.and_true, hO12.one, hP12.one]; try rfl) hB22 (Nat.le_of_ble_eq_true rfl) rfl ?_
   intro w26 hB22 E27
   have z_w26 := E27.size
   have hfo := hfo.keep E27 (fun k hk => .inr (by simp at hk; omega))
   have hfoR := hfoR.keep E27 (fun k hk => .inr (by simp at hk; omega))
   have hB5 := hB5.keep E27 (fun hh => hB5.ne hB22_old (by decide) (Option.some.inj hh))
   have hL12 := hL12.keepG (Gr.of E27) (Dj.one dj23)
   have hb := hb.step1 E27 (by omega)
   refine op_assign (ev_hit hN rfl) (reg_nil (hK11 _ _ (seq_any fun K28 hK28 => one_reg (op_move (ev_hit hN rfl) (op_bin (v := .bool false) (ev_hit hN rfl) rfl (by rw [binOp_neq]; rfl) ?_)))))
   refine reg_nil (hK28 _ _ (wp_cond_false (ev_hit hN rfl) (wp_skip (hK10 _ _ (seq_any fun K29 hK29 => seq_any fun K30 hK30 => ?_)))))
   refine one_reg (op_field fld45_7 (ev_hit hN rfl) (op_load1 (v := (Value.string (bs f.join))) one9 (ev_hit hN rfl) (hB5.cell rfl) (op_field fld45_1 (ev_hit hN rfl) (op_load1 (v := (Value.string (bs f.tb))) one9 (ev_hit hN rfl) (hB5.cell rfl) (op_seql (ev_hit hN rfl) (ev_hit hN rfl) (fun c26 => ?_) (fun c26 => ?_))))))
   ·
    refine reg_nil (hK30 _ _ ?_)
    refine wp_cond_true (ev_hit hN rfl) (seq_any fun K31 hK31 => one_reg (op_assign rfl (reg_nil (hK31 _ _ (wp_ret (then_ret ( ?_)))))))
    refine ret1 rfl hd (ev_hit hN rfl) ⟨_, rfl, ?_⟩
    obtain ⟨e1, e2, e3⟩ := @joinE_s (D.map DTab.t) f C K _ c11 ht12
    rw [if_pos c26] at e1
    rw [e1]; exact ⟨hb, rfl, _, _, _, hL12, (hN12.mono (by omega)), fun q => absurd q (by decide)⟩
   ·
    refine reg_nil (hK30 _ _ ?_)
    refine wp_cond_false (ev_hit hN rfl) (wp_skip (hK29 _ _ (seq_any fun K32 hK32 => one_reg (op_move (ev_base hN rfl s0) (op_field fld45_8 (ev_hit hN rfl) ?_)))))
    have hon2 := hon c11
    have hdl := (hsz9 _ (tab_mem ht12)).1
    have hcl9 : (C ++ colsOf f.join d12.t.cols).length = C.length + d12.t.cols.length := by rw [List.length_append, cols_len]
    have hkl9 : (K ++ kindsOf d12.t.cols).length = K.length + d12.t.cols.length := by rw [List.length_append, kinds_len]
    refine op_load1 (v := f.ov) one26 (ev_hit hN rfl) (hB5.cell rfl) (op_index_rd slt26 (ev_hit hN rfl) hfoR rfl (by omega) (by omega) ?_)
    intro b33 o34 h0b33 h1b33 hc35
    refine op_loadA (cs := [(Value.int .i64 (f.on.getD 0 default).op), (Value.int .i64 (f.on.getD 0 default).vk), (Value.int .i64 (f.on.getD 0 default).vi), (Value.string (bs (f.on.getD 0 default).vt)), (Value.string (bs (f.on.getD 0 default).tb)), (Value.string (bs (f.on.getD 0 default).nm)), (f.on.getD 0 default).av]) agg28 rfl (ev_hit hN rfl) (fun j u hu => hc35 j u (by have := (List.getElem?_eq_some_iff.1 hu).1; simpa using this) ((el_xe (i := 0) (by omega) (by omega)) j u hu)) ?_
    refine op_fn (vs := [(ptr l 0), (Value.agg #[(Value.int .i64 (f.on.getD 0 default).op), (Value.int .i64 (f.on.getD 0 default).vk), (Value.int .i64 (f.on.getD 0 default).vi), (Value.string (bs (f.on.getD 0 default).vt)), (Value.string (bs (f.on.getD 0 default).tb)), (Value.string (bs (f.on.getD 0 default).nm)), (f.on.getD 0 default).av])]) ok99 ⟨(ev_hit hN rfl), ⟨(ev_hit hN rfl), trivial⟩⟩ (lkKind (f.on.getD 0 default) (by omega) hL12 (by omega) (by omega) ((hfo.2 (f.on.getD 0 default) (getD_mem (by omega))).mono (by omega))) ?_
    rintro _ w36 ⟨E37, rfl⟩
    have E37 := grown_of_below E37
    have z_w36 := E37.size
    have hfo := hfo.keep0 E37
    have hfoR := hfoR.keep0 E37
    have hB5 := hB5.keep0 E37
    have hL12 := hL12.kz E37
    have hb := hb.step0 E37
    refine op_move (ev_hit hN rfl) (op_extract (ev_hit hN rfl) rfl ?_)
    refine op_extract (ev_hit hN rfl) rfl ?_
    refine op_assign (ev_hit hN rfl) (op_assign (ev_hit hN rfl) (reg_nil (hK32 _ _ (seq_any fun K38 hK38 => seq_any fun K39 hK39 => ?_))))
    refine one_reg (op_move (ev_hit hN rfl) (op_neq (ev_hit hN rfl) rfl (fun c37 => ?_) (fun c37 => ?_)))
    ·
     refine reg_nil (hK39 _ _ (wp_cond_true (ev_hit hN rfl) ?_))
     refine seq_any fun K40 hK40 => one_reg (op_move (ev_hit hN rfl) (op_assign (ev_hit hN rfl) (reg_nil (hK40 _ _ (wp_ret (then_ret ( ?_)))))))
     refine ret1 rfl hd (ev_hit hN rfl) ⟨_, rfl, ?_⟩
     obtain ⟨e1, e2, e3⟩ := @joinE_s (D.map DTab.t) f C K _ c11 ht12
     have e4 : onE (C ++ colsOf f.join d12.t.cols) (K ++ kindsOf d12.t.cols) f.on = (kindX (C ++ colsOf f.join d12.t.cols) (K ++ kindsOf d12.t.cols) (f.on.getD 0 default)).2 := by unfold onE; rw [if_pos c37]
     rw [if_neg c26, e4] at e1
     rw [e1]; exact ⟨hb, rfl, _, _, _, hL12, (hN12.mono (by omega)), fun _ => ⟨e2.symm, e3.symm⟩⟩
    ·
     refine reg_nil (hK39 _ _ (wp_cond_false (ev_hit hN rfl) (wp_skip ?_)))
     refine hK38 _ _ (seq_any fun K41 hK41 => one_reg (op_move (ev_base hN rfl s0) (op_field fld45_8 (ev_hit hN rfl) (op_load1 (v := f.ov) one26 (ev_hit hN rfl) (hB5.cell rfl) (op_index_rd slt26 (ev_hit hN rfl) hfoR rfl (by omega) (by omega) ?_)))))
     intro b42 o43 h0b42 h1b42 hc44
     refine op_loadA (cs := [(Value.int .i64 (f.on.getD 1 default).op), (Value.int .i64 (f.on.getD 1 default).vk), (Value.int .i64 (f.on.getD 1 default).vi), (Value.string (bs (f.on.getD 1 default).vt)), (Value.string (bs (f.on.getD 1 default).tb)), (Value.string (bs (f.on.getD 1 default).nm)), (f.on.getD 1 default).av]) agg28 rfl (ev_hit hN rfl) (fun j u hu => hc44 j u (by have := (List.getElem?_eq_some_iff.1 hu).1; simpa using this) ((el_xe (i := 1) (by omega) (by omega)) j u hu)) ?_
     refine op_move (ev_hit hN rfl) (op_fn (vs := [(ptr l 0), (Value.agg #[(Value.int .i64 (f.on.getD 1 default).op), (Value.int .i64 (f.on.getD 1 default).vk), (Value.int .i64 (f.on.getD 1 default).vi), (Value.string (bs (f.on.getD 1 default).vt)), (Value.string (bs (f.on.getD 1 default).tb)), (Value.string (bs (f.on.getD 1 default).nm)), (f.on.getD 1 default).av]), (Value.int .i64 (kindX (C ++ colsOf f.join d12.t.cols) (K ++ kindsOf d12.t.cols) (f.on.getD 0 default)).1)]) ok70 ⟨(ev_hit hN rfl), ⟨(ev_hit hN rfl), ⟨(ev_hit hN rfl), trivial⟩⟩⟩ (lkMust (f.on.getD 1 default) ((kindX (C ++ colsOf f.join d12.t.cols) (K ++ kindsOf d12.t.cols) (f.on.getD 0 default)).1) (by omega) hL12 (by omega) (by omega) ((hfo.2 (f.on.getD 1 default) (getD_mem (by omega))).mono (by omega))) ?_)
     rintro _ w45 ⟨E46, rfl⟩
     have E46 := grown_of_below E46
     have z_w45 := E46.size
     have hL12 := hL12.kz E46
     have hb := hb.step0 E46
     refine op_assign (ev_hit hN rfl) (reg_nil (hK41 _ _ (wp_ret ?_)))
     refine ret1 rfl hd (ev_hit hN rfl) ⟨_, rfl, ?_⟩
     obtain ⟨e1, e2, e3⟩ := @joinE_s (D.map DTab.t) f C K _ c11 ht12
     have e4 : onE (C ++ colsOf f.join d12.t.cols) (K ++ kindsOf d12.t.cols) f.on = mustX (C ++ colsOf f.join d12.t.cols) (K ++ kindsOf d12.t.cols) (f.on.getD 1 default) (kindX (C ++ colsOf f.join d12.t.cols) (K ++ kindsOf d12.t.cols) (f.on.getD 0 default)).1 := by unfold onE; rw [if_neg (fun g => g c37)]
     rw [if_neg c26, e4] at e1
     rw [e1]; exact ⟨hb, rfl, _, _, _, hL12, (hN12.mono (by omega)), fun _ => ⟨e2.symm, e3.symm⟩⟩
  ·
   refine op_fn (vs := [(ptr l 0), (Value.string (bs f.join))]) ok45 ⟨(ev_hit hN rfl), ⟨(ev_hit hN rfl), trivial⟩⟩ (lookTableF k16 (hT.mono (by omega)) hD hsz (by omega) h (by omega) (by omega)) ?_
   rintro _ w48 ⟨E49, rfl, F47, hL47, hN47⟩
   have bd50 := hB5.lt
   have z_w48 := E49.size
   have hb := hb.stepF E49 (fun _ _ q => q)
   refine op_move (ev_hit hN rfl) (op_extract (ev_hit hN rfl) rfl ?_)
   refine op_extract (ev_hit hN rfl) rfl ?_
   refine op_alloc (cs := [(Value.string (bs [])), (Value.slice none 0 0), (Value.slice none 0 0)]) zero55 rfl ?_
   intro w52 b53 lo_b53 hi_b53 hB55 E54
   have dj56 : ¬ F47 b53 := fun hf => by have := (hL47.lt _ hf).2; omega
   have z_w52 := E54.size
   have hL47 := hL47.kz E54
   have hb := hb.step0 E54
   refine op_store (vs := [(Value.string (bs [])), (Value.slice none 0 0), (Value.slice none 0 0)]) (cs' := [(Value.string (bs [])), (Value.slice none 0 0), (Value.slice none 0 0)]) size55 (ev_hit hN rfl) (ev_hit hN rfl) rfl rfl rfl hB55 (Nat.le_of_ble_eq_true rfl) rfl ?_
   intro w59 hB55 E60
   have z_w59 := E60.size
   have hL47 := hL47.keepG (Gr.of E60) (Dj.one dj56)
   have hb := hb.step1 E60 (by omega)
   refine op_assign (ev_hit hN rfl) (reg_nil (hK11 _ _ ?_))
   refine seq_any fun K61 hK61 => one_reg (op_move (ev_hit hN rfl) (op_bin (v := .bool true) (ev_hit hN rfl) rfl (by rw [binOp_neq]; rfl) (reg_nil (hK61 _ _ (wp_cond_true (ev_hit hN rfl) ?_)))))
   refine seq_any fun K62 hK62 => one_reg (op_move (ev_hit hN rfl) (op_assign (ev_hit hN rfl) (reg_nil (hK62 _ _ (wp_ret (then_ret ( ?_)))))))
   refine ret1 rfl hd (ev_hit hN rfl) ⟨_, rfl, ?_⟩
   have e1 := @joinE_n (D.map DTab.t) f C K c11 k16
   rw [e1]; exact ⟨hb, rfl, C, K, _, hL47, (hN47.mono (by omega)), fun q => absurd q (by decide)⟩

theorem Column_ret (a : List UInt8) (l : List PCol) (cv iv : Value) (x : List UInt8) (w : World) (hl : RdC w 0 w.heap.size 3 cv l.length (l.flatMap cellsC)) : Ret Try.prog 58 #[(Value.agg #[(Value.string (bs a)), cv, iv]), (Value.string (bs x))] w (fun v' w' => Below w.heap.size w w' ∧ v' = .int .i64 (colIx l x)) := by
 have hb := Below.refl w.heap.size w
 refine enter (N := 9) Try.func58 rfl rfl (by simp) fun a0 hN hd hA => ?_
 have s0 : a0.tmps.getD 0 undef = (Value.agg #[(Value.string (bs a)), cv, iv]) := hA 0 (by simp)
 have s1 : a0.tmps.getD 1 undef = (Value.string (bs x)) := hA 1 (by simp)
 clear hA
 refine seq_any fun K28 hK28 => one_reg (op_box (cs := [(Value.string (bs a)), cv, iv]) (ev_base hN rfl s0) rfl ?_)
 intro w29 b30 lo_b30 hi_b30 hB32 E31
 have z_w29 := E31.size
 have hl := hl.keep0 E31
 have hb := below_step0 hb E31 hb.size
 refine op_assign rfl (reg_nil ?_)
 refine hK28 _ _ (seq_any fun K33 hK33 => one_reg (op_field fld55_1 (ev_hit hN rfl) (op_load1 (v := cv) one41 (ev_hit hN rfl) (hB32.cell rfl) (op_move (ev_base hN rfl s1) (op_fn (vs := [cv, (Value.string (bs x)), (Value.func (.func 87) #[] #[])]) ok86 ⟨(ev_hit hN rfl), ⟨(ev_hit hN rfl), ⟨rfl, trivial⟩⟩⟩ (findCol (L := (l : List PCol)) x (hl.mono (Nat.zero_le _) (by omega))) ?_)))))
 rintro _ w34 ⟨E35, rfl⟩
 have E35 := grown_of_below E35
 have z_w34 := E35.size
 have hl := hl.keep0 E35
 have hb := below_step0 hb E35 hb.size
 refine op_assign (ev_hit hN rfl) (reg_nil (hK33 _ _ (wp_ret ?_)))
 refine ret1 rfl hd (ev_hit hN rfl) ⟨_, rfl, ?_⟩
 exact ⟨hb, rfl⟩

theorem ins1 {e : XE} {n nl B Bc ib tb nb : Nat} {F : Nat → Prop} {a : List UInt8} {cols : List PCol} {cv iv : Value} {w : World} (hB : B ≤ w.heap.size) (h : LookR w B nl (.slice none 0 0) (.slice none 0 0) [] [] F) (hnb : Bx w nb 90 [ptr nl 0]) (htb : Bx w tb 55 [.string (bs a), cv, iv]) (hdF : ¬ F ib) (hib : Bx w ib 3 [.int .i64 ((n : Nat) : Int)]) (hcv : RdC w 0 Bc 3 cv cols.length (cols.flatMap cellsC)) (hcl : cols.length ≤ 1000000) (hBc : Bc ≤ ib) (hBe : Bc ≤ w.heap.size) (he : XRd w Bc e) (hn : n < cols.length) (hn1 : nb ≠ ib) : Ret Try.prog 69 #[(Value.agg #[(Value.int .i64 e.op), (Value.int .i64 e.vk), (Value.int .i64 e.vi), (Value.string (bs e.vt)), (Value.string (bs e.tb)), (Value.string (bs e.nm)), e.av]), (ptr ib 0), (ptr nb 0), (ptr tb 0)] w (fun v' w' => w.grownBy w' (some ib) ∧ v' = .int .i64 (mustX [] [] e (cols.getD n default).kind) ∧ Bx w' ib 3 [.int .i64 ((n + 1 : Nat) : Int)]) := by
 have hi_ib := hib.lt
 have hi_tb := htb.lt
 have hi_nb := hnb.lt
 have hltl := fun k hk => (h.lt k hk).2
 have hb := grown_refl w (some ib)
 refine enter (N := 18) Try.func69 rfl rfl (by simp) fun a0 hN hd hA => ?_
 have s0 : a0.tmps.getD 0 undef = (Value.agg #[(Value.int .i64 e.op), (Value.int .i64 e.vk), (Value.int .i64 e.vi), (Value.string (bs e.vt)), (Value.string (bs e.tb)), (Value.string (bs e.nm)), e.av]) := hA 0 (by simp)
 have s1 : a0.tmps.getD 1 undef = (ptr ib 0) := hA 1 (by simp)
 have s2 : a0.tmps.getD 2 undef = (ptr nb 0) := hA 2 (by simp)
 have s3 : a0.tmps.getD 3 undef = (ptr tb 0) := hA 3 (by simp)
 clear hA
 refine seq_any fun K36 hK36 => one_reg (op_box (cs := [(Value.int .i64 e.op), (Value.int .i64 e.vk), (Value.int .i64 e.vi), (Value.string (bs e.vt)), (Value.string (bs e.tb)), (Value.string (bs e.nm)), e.av]) (ev_base hN rfl s0) rfl ?_)
 intro w37 b38 lo_b38 hi_b38 hB40 E39
 have z_w37 := E39.size
 have h := h.kz E39
 have hnb := hnb.keep0 E39
 have htb := htb.keep0 E39
 have hib := hib.keep0 E39
 have hcv := hcv.keep0 E39
 have he := he.keep0 E39
 have hb := grow_step0 hb E39
 refine op_assign rfl (reg_nil (hK36 _ _ (seq_any fun K42 hK42 => one_reg (op_load1 (v := (Value.int .i64 ((n : Nat) : Int))) one3 (ev_base hN rfl s1) (hib.cell rfl) (op_add (r := ((n + 1 : Nat) : Int)) (ev_hit hN rfl) rfl ((add64 (by omega)).trans (by omega)) ?_)))))
 have hib_old := hib
 refine op_store (vs := [(Value.int .i64 ((n + 1 : Nat) : Int))]) (cs' := [(Value.int .i64 ((n + 1 : Nat) : Int))]) size3 (ev_base hN rfl s1) (ev_hit hN rfl) rfl rfl rfl hib (Nat.le_of_ble_eq_true rfl) rfl ?_
 intro w45 hib E46
 have z_w45 := E46.size
 have h := h.keepG (Gr.of E46) (Dj.one hdF)
 have hnb := hnb.keep E46 (fun hh => hnb.ne hib_old (by decide) (Option.some.inj hh))
 have htb := htb.keep E46 (fun hh => htb.ne hib_old (by decide) (Option.some.inj hh))
 have hcv := hcv.keep E46 (fun k hk => .inr (by simp at hk; omega))
 have he := he.keep E46 (fun k hk => .inr (by simp at hk; omega))
 have hB40 := hB40.keep E46 (fun hh => hB40.ne hib_old (by decide) (Option.some.inj hh))
 have hb := grown_trans hb E46
 refine reg_nil (hK42 _ _ (seq_any fun K47 hK47 => reg_from mixed ?_))
 intro w49 E48
 have z_w49 := E48.size
 have h := h.kz E48
 have hnb := hnb.keep0 E48
 have htb := htb.keep0 E48
 have hcv := hcv.keep0 E48
 have he := he.keep0 E48
 have hB40 := hB40.keep0 E48
 have hib := hib.keep0 E48
 have hb := grow_step0 hb E48
 refine from_still (m := 9) 9 (hd := [_, _, _, _, _, _, _, _, _]) (by kernel_rfl) rfl rfl ?_
 refine st_step rfl (fun _ h9 => op_load1 (v := (ptr nl 0)) one90 (ev_base hN rfl s2) (hnb.cell rfl) h9) ?_
 refine st_step rfl (fun _ h9 => op_loadA (cs := [(Value.int .i64 e.op), (Value.int .i64 e.vk), (Value.int .i64 e.vi), (Value.string (bs e.vt)), (Value.string (bs e.tb)), (Value.string (bs e.nm)), e.av]) agg28 rfl (ev_hit hN rfl) (fun j u hu => by rw [Nat.zero_add]; exact hB40.cell hu) h9) ?_
 refine st_step rfl (fun _ h9 => op_field fld55_1 (ev_base hN rfl s3) h9) ?_
 refine st_step rfl (fun _ h9 => op_load1 (v := cv) one41 (ev_hit hN rfl) (htb.cell rfl) h9) ?_
 refine st_step rfl (fun _ h9 => op_load1 (v := (Value.int .i64 ((n + 1 : Nat) : Int))) one3 (ev_base hN rfl s1) (hib.cell rfl) h9) ?_
 refine st_step rfl (fun _ h9 => op_sub (r := ((n : Nat) : Int)) (ev_hit hN rfl) rfl ((sub64 (by omega)).trans (by omega)) h9) ?_
 refine st_index_rd slt41 (ev_hit hN rfl) hcv (ev_hit hN rfl) (by omega) (by omega) ?_
 intro b50 o51 h0b50 h1b50 hc52
 refine st_step rfl (fun _ h9 => op_field fld68_1 (ev_hit hN rfl) h9) ?_
 refine st_step rfl (fun _ h9 => op_load1 (v := (Value.int .i64 (cols.getD n default).kind)) one3 (ev_hit hN rfl) (hc52 1 ((Value.int .i64 (cols.getD n default).kind)) (by decide) ((el_pc (i := n) (by omega) (by omega)) 1 ((Value.int .i64 (cols.getD n default).kind)) rfl)) h9) ?_
 refine st_nil ?_
 refine from_seq (tl := [_, _]) (by decide) (by kernel_rfl) rfl ?_
 refine op_fn (vs := [(ptr nl 0), (Value.agg #[(Value.int .i64 e.op), (Value.int .i64 e.vk), (Value.int .i64 e.vi), (Value.string (bs e.vt)), (Value.string (bs e.tb)), (Value.string (bs e.nm)), e.av]), (Value.int .i64 (cols.getD n default).kind)]) ok70 ⟨(ev_hit hN rfl), ⟨(ev_hit hN rfl), ⟨(ev_hit hN rfl), trivial⟩⟩⟩ (lkMust e ((cols.getD n default).kind) (by omega) h (by simp) (by simp) (he.mono (by omega))) ?_
 rintro _ w53 ⟨E54, rfl⟩
 have E54 := grown_of_below E54
 have z_w53 := E54.size
 have hnb := hnb.keep0 E54
 have hcv := hcv.keep0 E54
 have hib := hib.keep0 E54
 have hb := grow_step0 hb E54
 refine op_assign (ev_hit hN rfl) (reg_nil (hK47 _ _ (wp_ret ?_)))
 refine ret1 rfl hd (ev_hit hN rfl) ⟨_, rfl, ?_⟩
 exact ⟨hb, rfl, hib⟩

theorem FoldIns {E : List XE} {v : Value} {nl B Bc ib tb nb : Nat} {F : Nat → Prop} {a : List UInt8} {cols : List PCol} {cv iv : Value} {w : World} (hB : B ≤ w.heap.size) (h : LookR w B nl (.slice none 0 0) (.slice none 0 0) [] [] F) (hnb : Bx w nb 90 [ptr nl 0]) (htb : Bx w tb 55 [.string (bs a), cv, iv]) (hdF : ¬ F ib) (hib : Bx w ib 3 [.int .i64 0]) (hcv : RdC w 0 Bc 3 cv cols.length (cols.flatMap cellsC)) (hcl : cols.length ≤ 1000000) (hBc : Bc ≤ ib) (hBe : Bc ≤ w.heap.size) (hX : XsRd w Bc v E) (hEl : E.length = cols.length) (hn1 : nb ≠ ib) : Ret Try.prog 31 #[v, (Value.func (.func 69) #[] #[(ptr ib 0), (ptr nb 0), (ptr tb 0)])] w (fun v' w' => w.grownBy w' (some ib) ∧ v' = .int .i64 (firstE (insL E cols))) := by
 have hXR := hX.1
 have hi_ib := hib.lt
 have hi_tb := htb.lt
 have hi_nb := hnb.lt
 have hltl := fun k hk => (h.lt k hk).2
 have hb := grown_refl w (some ib)
 refine enter (N := 21) Try.func31 rfl rfl (by simp) fun a0 hN hd hA => ?_
 have s0 : a0.tmps.getD 0 undef = v := hA 0 (by simp)
 have s1 : a0.tmps.getD 1 undef = (Value.func (.func 69) #[] #[(ptr ib 0), (ptr nb 0), (ptr tb 0)]) := hA 1 (by simp)
 clear hA
 refine seq_any fun K55 hK55 => one_reg (op_assign rfl ?_)
 refine reg_nil (hK55 _ _ (seq_any fun K56 hK56 => seq_any fun K57 hK57 => one_reg (op_move (ev_base hN rfl s0) (op_len_rd Try.underlying26 (ev_hit hN rfl) hXR ?_))))
 refine op_move rfl (reg_nil (hK57 _ _ (wp_block ?_)))
 refine loop_m (fun mz_ az_ w' => ∃ (i : Nat), mz_ = E.length - i ∧ (az_.tmps.getD 1 undef = (Value.func (.func 69) #[] #[(ptr ib 0), (ptr nb 0), (ptr tb 0)])) ∧ (az_.tmps.getD 8 undef = v) ∧ (az_.tmps.getD 9 undef = (Value.int .i64 ((E.length : Nat) : Int))) ∧ (az_.tmps.getD 10 undef = (Value.int .i64 ((i : Nat) : Int))) ∧ (i ≤ E.length) ∧ (∀ j, j < i → (insL E cols).getD j 0 = 0) ∧ (w.grownBy w' (some ib)) ∧ (w.heap.size ≤ w'.heap.size) ∧ (LookR w' B nl (.slice none 0 0) (.slice none 0 0) ([] : List PItm) ([] : List Int) F) ∧ (Bx w' nb 90 [(ptr nl 0)]) ∧ (Bx w' tb 55 [(Value.string (bs a)), cv, iv]) ∧ (RdC w' 0 Bc 3 cv cols.length (cols.flatMap cellsC)) ∧ (XsRd w' Bc v E) ∧ (RdC w' 0 Bc 7 v E.length (E.flatMap cellsX)) ∧ (Bx w' ib 3 [(Value.int .i64 ((i : Nat) : Int))])) _ hN hd ⟨0, rfl, (sl_base hN rfl s1), (sl_hit hN rfl), (sl_hit hN rfl), (sl_hit hN rfl), (Nat.zero_le _), (fun _ h => absurd h (Nat.not_lt_zero _)), hb, (Nat.le_refl _), h, hnb, htb, hcv, hX, hXR, hib⟩ ?_
 rintro _ a58 w58 hN58 hd58 ⟨i, rfl, s58_1, s58_8, s58_9, s58_10, hi, hall, hb, zl_w58, h, hnb, htb, hcv, hX, hXR, hib2⟩
 have z_w58 := hb.size
 refine seq_any fun K59 hK59 => ?_
 refine one_reg (op_lss (ev_base hN58 rfl s58_10) (ev_base hN58 rfl s58_9) (fun c11 => ?_) (fun c11 => ?_))
 ·
  refine reg_nil ?_
  refine hK59 _ _ (seq_any fun K60 hK60 => wp_cond_true (ev_hit hN58 rfl) (wp_skip (hK60 _ _ (seq_any fun K61 hK61 => wp_block ?_))))
  refine seq_any fun K62 hK62 => one_reg (op_index_rd slt26 (ev_base hN58 rfl s58_8) hXR (ev_base hN58 rfl s58_10) (by omega) (by omega) ?_)
  intro b63 o64 h0b63 h1b63 hc65
  refine op_loadA (cs := [(Value.int .i64 (E.getD i default).op), (Value.int .i64 (E.getD i default).vk), (Value.int .i64 (E.getD i default).vi), (Value.string (bs (E.getD i default).vt)), (Value.string (bs (E.getD i default).tb)), (Value.string (bs (E.getD i default).nm)), (E.getD i default).av]) agg28 rfl (ev_hit hN58 rfl) (fun j u hu => hc65 j u (by have := (List.getElem?_eq_some_iff.1 hu).1; simpa using this) ((el_xe (i := i) (by omega) (by omega)) j u hu)) ?_
  refine op_alloc (cs := [(Value.int .i64 0), (Value.int .i64 0), (Value.int .i64 0), (Value.string (bs [])), (Value.string (bs [])), (Value.string (bs [])), (Value.slice none 0 0)]) zero28 rfl ?_
  intro w66 b67 lo_b67 hi_b67 hB69 E68
  have dj70 : ¬ F b67 := fun hf => by have := (h.lt _ hf).2; omega
  have z_w66 := E68.size
  have h := h.kz E68
  have hnb := hnb.keep0 E68
  have htb := htb.keep0 E68
  have hcv := hcv.keep0 E68
  have hX := hX.keep0 E68
  have hXR := hXR.keep0 E68
  have hib2 := hib2.keep0 E68
  have hb := grow_step0 hb E68
  have hB69_old := hB69
  refine op_store (vs := [(Value.int .i64 (E.getD i default).op), (Value.int .i64 (E.getD i default).vk), (Value.int .i64 (E.getD i default).vi), (Value.string (bs (E.getD i default).vt)), (Value.string (bs (E.getD i default).tb)), (Value.string (bs (E.getD i default).nm)), (E.getD i default).av]) (cs' := [(Value.int .i64 (E.getD i default).op), (Value.int .i64 (E.getD i default).vk), (Value.int .i64 (E.getD i default).vi), (Value.string (bs (E.getD i default).vt)), (Value.string (bs (E.getD i default).tb)), (Value.string (bs (E.getD i default).nm)), (E.getD i default).av]) size28 (ev_hit hN58 rfl) (ev_hit hN58 rfl) rfl rfl (by simp only [List.all_cons, List.all_nil, Bool.true_and, Bool.and_true, (hX.2 (E.getD i default) (getD_mem (by omega))).list.1.one]; try rfl) hB69 (Nat.le_of_ble_eq_true rfl) rfl ?_
  intro w73 hB69 E74
  have z_w73 := E74.size
  have h := h.keepG (Gr.of E74) (Dj.one dj70)
  have hnb := hnb.keep E74 (fun hh => hnb.ne hB69_old (by decide) (Option.some.inj hh))
  have htb := htb.keep E74 (fun hh => htb.ne hB69_old (by decide) (Option.some.inj hh))
  have hcv := hcv.keep E74 (fun k hk => .inr (by simp at hk; omega))
  have hX := hX.keep E74 (fun k hk => .inr (by simp at hk; omega))
  have hXR := hXR.keep E74 (fun k hk => .inr (by simp at hk; omega))
  have hib2 := hib2.keep E74 (fun hh => hib2.ne hB69_old (by decide) (Option.some.inj hh))
  have hb := grow_step1 hb E74 (by omega)
  refine reg_nil (hK62 _ _ (seq_any fun K75 hK75 => one_reg (op_move (ev_base hN58 rfl s58_1) (op_loadA (cs := [(Value.int .i64 (E.getD i default).op), (Value.int .i64 (E.getD i default).vk), (Value.int .i64 (E.getD i default).vi), (Value.string (bs (E.getD i default).vt)), (Value.string (bs (E.getD i default).tb)), (Value.string (bs (E.getD i default).nm)), (E.getD i default).av]) agg28 rfl (ev_hit hN58 rfl) (fun j u hu => by rw [Nat.zero_add]; exact hB69.cell hu) ?_))))
  refine op_fnv (fs := []) (vs := [(Value.agg #[(Value.int .i64 (E.getD i default).op), (Value.int .i64 (E.getD i default).vk), (Value.int .i64 (E.getD i default).vi), (Value.string (bs (E.getD i default).vt)), (Value.string (bs (E.getD i default).tb)), (Value.string (bs (E.getD i default).nm)), (E.getD i default).av])]) (cs := [(ptr ib 0), (ptr nb 0), (ptr tb 0)]) (ev_hit hN58 rfl) ok69 ⟨(ev_hit hN58 rfl), trivial⟩ (ins1 (by omega) h hnb htb hdF hib2 hcv hcl (by omega) (by omega) (hX.2 _ (getD_mem (by omega))) (by omega) (by omega)) ?_
  rintro _ w77 ⟨E78, rfl, hi76⟩
  have hib2_old := hib2
  have z_w77 := E78.size
  have h := h.keepG (Gr.of E78) (Dj.one hdF)
  have hnb := hnb.keep E78 (fun hh => hnb.ne hib2_old (by decide) (Option.some.inj hh))
  have htb := htb.keep E78 (fun hh => htb.ne hib2_old (by decide) (Option.some.inj hh))
  have hcv := hcv.keep E78 (fun k hk => .inr (by simp at hk; omega))
  have hX := hX.keep E78 (fun k hk => .inr (by simp at hk; omega))
  have hXR := hXR.keep E78 (fun k hk => .inr (by simp at hk; omega))
  have hb := grown_trans hb E78
  refine op_assign (ev_hit hN58 rfl) (reg_nil (hK75 _ _ (seq_any fun K79 hK79 => ?_)))
  refine one_reg (op_move (ev_hit hN58 rfl) (op_neq (ev_hit hN58 rfl) rfl (fun c18 => ?_) (fun c18 => ?_)))
  ·
   refine reg_nil (hK79 _ _ (wp_cond_true (ev_hit hN58 rfl) ?_))
   refine seq_any fun K80 hK80 => one_reg (op_move (ev_hit hN58 rfl) (op_assign (ev_hit hN58 rfl) (reg_nil (hK80 _ _ (wp_ret (blk_ret (then_ret (then_ret (blk_ret (then_ret ( ?_)))))))))))
   refine ret1 rfl hd58 (ev_hit hN58 rfl) ⟨_, rfl, ?_⟩
   rw [insL_hit (by omega) hall c18]; exact ⟨hb, rfl⟩
  ·
   refine reg_nil (hK79 _ _ (wp_cond_false (ev_hit hN58 rfl) (wp_skip (hK61 _ _ (one_reg (op_add (ev_base hN58 rfl s58_10) rfl (add64 (by omega)) ?_))))))
   refine op_move (ev_hit hN58 rfl) (reg_nil ?_)
   -- round 11T 18F
   exact loop_next _ hN58 hd58 ⟨(i + 1), rfl, (sl_base hN58 rfl s58_1), (sl_base hN58 rfl s58_8), (sl_base hN58 rfl s58_9), (sl_hit hN58 rfl).trans (congrArg (Value.int .i64) (by omega)), (by omega), (all_next hall ((insL_at (by omega)).trans c18)), hb, (by omega), h, hnb, htb, hcv, hX, hXR, hi76⟩ (by omega)
 ·
  refine reg_nil (hK59 _ _ (seq_any fun K81 hK81 => wp_cond_false (ev_hit hN58 rfl) (wp_exit (then_exit (then_exit (blk_hit ?_))))))
  refine hK56 _ _ (seq_any fun K82 hK82 => one_reg (op_assign rfl (reg_nil (hK82 _ _ (wp_ret ?_)))))
  refine ret1 rfl hd58 (ev_hit hN58 rfl) ⟨_, rfl, ?_⟩
  rw [insL_none (by omega) hall]; exact ⟨hb, rfl⟩

theorem lkIns {tv : Value} {D : List DTab} {l B : Nat} {F : Nat → Prop} {f : StF} {nv : Value} {w : World} (hT : TsRd w B tv D) (hD : D.length ≤ 1000000) (hsz : ∀ d ∈ D, d.t.cols.length ≤ 1000000 ∧ d.t.idx.length ≤ 1000000) (hB : B ≤ w.heap.size) (h : LookR w B l tv (.slice none 0 0) [] [] F) (hfv : XsRd w B f.vv f.vals) : Ret Try.prog 42 #[(ptr l 0), (Value.agg #[(Value.int .i64 f.kind), (Value.string (bs f.tb)), (Value.string (bs f.nm)), f.cv, f.gv, f.vv, f.iv, (Value.string (bs f.join)), f.ov, f.wv, f.rv, (Value.bool f.desc), nv])] w (fun v' w' => Gr w w' F ∧ v' = .int .i64 (match tabAt (D.map DTab.t) f.tb with | none => (9 : Int) | some t => insE t f)) := by
 have hR := hT.1
 have hltl := fun k hk => (h.lt k hk).2
 have hfvR := hfv.1
 have hsz9 : ∀ t ∈ D.map DTab.t, t.cols.length ≤ 1000000 ∧ t.idx.length ≤ 1000000 := fun t ht => by obtain ⟨d, hd, rfl⟩ := List.mem_map.1 ht; exact hsz d hd
 have hb := Gr.refl w F
 refine enter (N := 34) Try.func42 rfl rfl (by simp) fun a0 hN hd hA => ?_
 have s0 : a0.tmps.getD 0 undef = (ptr l 0) := hA 0 (by simp)
 have s1 : a0.tmps.getD 1 undef = (Value.agg #[(Value.int .i64 f.kind), (Value.string (bs f.tb)), (Value.string (bs f.nm)), f.cv, f.gv, f.vv, f.iv, (Value.string (bs f.join)), f.ov, f.wv, f.rv, (Value.bool f.desc), nv]) := hA 1 (by simp)
 clear hA
 refine seq_any fun K83 hK83 => one_reg (op_box (cs := [(Value.int .i64 f.kind), (Value.string (bs f.tb)), (Value.string (bs f.nm)), f.cv, f.gv, f.vv, f.iv, (Value.string (bs f.join)), f.ov, f.wv, f.rv, (Value.bool f.desc), nv]) (ev_base hN rfl s1) rfl ?_)
 intro w84 b85 lo_b85 hi_b85 hB87 E86
 have dj88 : ¬ F b85 := fun hf => by have := (h.lt _ hf).2; omega
 have z_w84 := E86.size
 have hT := hT.keep0 E86
 have h := h.kz E86
 have hfv := hfv.keep0 E86
 have hfvR := hfvR.keep0 E86
 have hb := hb.step0 E86
 refine op_assign rfl ?_
 refine reg_nil (hK83 _ _ (seq_any fun K89 hK89 => one_reg (op_move (ev_base hN rfl s0) (op_field fld45_1 (ev_hit hN rfl) (op_load1 (v := (Value.string (bs f.tb))) one9 (ev_hit hN rfl) (hB87.cell rfl) ?_)))))
 rcases Bool.eq_false_or_eq_true ((tabAt (D.map DTab.t) f.tb).isSome) with k13 | k13
 ·
  refine op_fn (vs := [(ptr l 0), (Value.string (bs f.tb))]) ok45 ⟨(ev_hit hN rfl), ⟨(ev_hit hN rfl), trivial⟩⟩ (lookTableT k13 (hT.mono (by omega)) hD hsz (by omega) h (by simp) (by simp)) ?_
  rintro _ w91 ⟨E92, d90, rfl, ht90, hO90, hP90, F90, hL90, hN90⟩
  have bd95 := hB87.lt
  have h_old := h
  have z_w91 := E92.size
  have hfv := hfv.keepG E92 (fun k hk => .inr (by have := h_old.lt k hk; omega))
  have hfvR := hfvR.keepG E92 (fun k hk => .inr (by have := h_old.lt k hk; omega))
  have hB87 := hB87.keepG E92 dj88
  have hb := hb.stepF E92 (fun _ _ q => q)
  have hO90 := hO90.mono (base' := w.heap.size) (by omega)
  have hP90 := hP90.mono (base' := w.heap.size) (by omega)
  refine op_move (ev_hit hN rfl) (op_extract (ev_hit hN rfl) rfl ?_)
  refine op_extract (ev_hit hN rfl) rfl ?_
  refine op_alloc (cs := [(Value.string (bs [])), (Value.slice none 0 0), (Value.slice none 0 0)]) zero55 rfl ?_
  intro w97 b98 lo_b98 hi_b98 hB100 E99
  have z_w97 := E99.size
  have hfv := hfv.keep0 E99
  have hfvR := hfvR.keep0 E99
  have hB87 := hB87.keep0 E99
  have hO90 := hO90.keep0 E99
  have hP90 := hP90.keep0 E99
  have hb := hb.step0 E99
  have hB100_old := hB100
  refine op_store (vs := [(Value.string (bs d90.t.nm)), d90.cv, d90.iv]) (cs' := [(Value.string (bs d90.t.nm)), d90.cv, d90.iv]) size55 (ev_hit hN rfl) (ev_hit hN rfl) rfl rfl (by simp only [List.all_cons, List.all_nil, Bool.true_and, Bool.and_true, hO90.one, hP90.one]; try rfl) hB100 (Nat.le_of_ble_eq_true rfl) rfl ?_
  intro w104 hB100 E105
  have z_w104 := E105.size
  have hfv := hfv.keep E105 (fun k hk => .inr (by simp at hk; omega))
  have hfvR := hfvR.keep E105 (fun k hk => .inr (by simp at hk; omega))
  have hB87 := hB87.keep E105 (fun hh => hB87.ne hB100_old (by decide) (Option.some.inj hh))
  have hO90 := hO90.keepX hB100_old E105 (by decide)
  have hb := hb.step1 E105 (by omega)
  refine op_assign (ev_hit hN rfl) (reg_nil (hK89 _ _ (seq_any fun K106 hK106 => wp_block ?_)))
  refine seq_any fun K107 hK107 => one_reg (op_move (ev_hit hN rfl) (op_bin (v := .bool false) (ev_hit hN rfl) rfl (by rw [binOp_neq]; rfl) (op_assign (ev_hit hN rfl) (reg_nil ?_))))
  refine hK107 _ _ (wp_cond_false (ev_hit hN rfl) (seq_any fun K108 hK108 => one_reg (op_field fld45_5 (ev_hit hN rfl) (op_load1 (v := f.vv) one26 (ev_hit hN rfl) (hB87.cell rfl) (op_len_rd Try.underlying26 (ev_hit hN rfl) hfvR ?_)))))
  refine op_field fld55_1 (ev_hit hN rfl) (op_load1 (v := d90.cv) one41 (ev_hit hN rfl) (hB100.cell rfl) (op_len_rd Try.underlying41 (ev_hit hN rfl) hO90.rdw ?_))
  refine op_neq (ev_hit hN rfl) (ev_hit hN rfl) (fun c27 => ?_) (fun c27 => ?_)
  ·
   refine op_assign (ev_hit hN rfl) (reg_nil (hK108 _ _ ?_))
   refine wp_cond_true (ev_hit hN rfl) (seq_any fun K109 hK109 => one_reg (op_assign rfl (reg_nil (hK109 _ _ (wp_ret (blk_ret (then_ret ( ?_))))))))
   refine ret1 rfl hd (ev_hit hN rfl) ⟨_, rfl, ?_⟩
   rw [show tabAt (D.map DTab.t) f.tb = some d90.t from ht90]
   have e9 : insE d90.t f = 7 := by unfold insE; rw [if_pos (by omega)]
   simp only []; rw [e9]; exact ⟨hb, rfl⟩
  ·
   refine op_assign (ev_hit hN rfl) (reg_nil ?_)
   refine hK108 _ _ (wp_cond_false (ev_hit hN rfl) (wp_skip (hK106 _ _ (seq_any fun K110 hK110 => one_reg (op_build (pv := []) (v := (Value.agg #[(Value.slice none 0 0), (Value.slice none 0 0), (Value.slice none 0 0), (Value.slice none 0 0)])) trivial (by kernel_rfl) ?_)))))
   have hdl := (hsz9 _ (tab_mem ht90)).1
   have hzw := hb.size
   have hcvB : RdC w104 0 w104.heap.size 3 d90.cv d90.t.cols.length (d90.t.cols.flatMap cellsC) := hO90.rdw.mono (Nat.zero_le _) (Nat.le_refl _)
   refine op_box (cs := [(Value.slice none 0 0), (Value.slice none 0 0), (Value.slice none 0 0), (Value.slice none 0 0)]) (ev_hit hN rfl) rfl ?_
   intro w111 b112 lo_b112 hi_b112 hB114 E113
   have z_w111 := E113.size
   have hfv := hfv.keep0 E113
   have hB87 := hB87.keep0 E113
   have hB100 := hB100.keep0 E113
   have hcvB := hcvB.keep0 E113
   have hb := hb.step0 E113
   refine op_alloc (cs := [(Value.pointer none)]) zero90 rfl ?_
   intro w116 b117 lo_b117 hi_b117 hB119 E118
   have z_w116 := E118.size
   have hfv := hfv.keep0 E118
   have hB87 := hB87.keep0 E118
   have hB100 := hB100.keep0 E118
   have hcvB := hcvB.keep0 E118
   have hB114 := hB114.keep0 E118
   have hb := hb.step0 E118
   refine op_alloc (cs := [(Value.int .i64 0)]) zero3 rfl ?_
   intro w121 b122 lo_b122 hi_b122 hB124 E123
   have z_w121 := E123.size
   have hfv := hfv.keep0 E123
   have hB87 := hB87.keep0 E123
   have hB100 := hB100.keep0 E123
   have hcvB := hcvB.keep0 E123
   have hB114 := hB114.keep0 E123
   have hB119 := hB119.keep0 E123
   have hb := hb.step0 E123
   have hB119_old := hB119
   refine op_store (vs := [(ptr b112 0)]) (cs' := [(ptr b112 0)]) size90 (ev_hit hN rfl) (ev_hit hN rfl) rfl rfl rfl hB119 (Nat.le_of_ble_eq_true rfl) rfl ?_
   intro w128 hB119 E129
   have z_w128 := E129.size
   have hfv := hfv.keep E129 (fun k hk => .inr (by simp at hk; omega))
   have hB87 := hB87.keep E129 (fun hh => hB87.ne hB119_old (by decide) (Option.some.inj hh))
   have hB100 := hB100.keep E129 (fun hh => hB100.ne hB119_old (by decide) (Option.some.inj hh))
   have hcvB := hcvB.keep E129 (fun k hk => .inr (by simp at hk; omega))
   have hB114 := hB114.keep E129 (fun hh => hB114.ne hB119_old (by decide) (Option.some.inj hh))
   have hB124 := hB124.keep E129 (fun hh => hB124.ne hB119_old (by decide) (Option.some.inj hh))
   have hb := hb.step1 E129 (by omega)
   have hB124_old := hB124
   refine op_store (vs := [(Value.int .i64 0)]) (cs' := [(Value.int .i64 0)]) size3 (ev_hit hN rfl) rfl rfl rfl rfl hB124 (Nat.le_of_ble_eq_true rfl) rfl ?_
   intro w132 hB124 E133
   have z_w132 := E133.size
   have hfv := hfv.keep E133 (fun k hk => .inr (by simp at hk; omega))
   have hB87 := hB87.keep E133 (fun hh => hB87.ne hB124_old (by decide) (Option.some.inj hh))
   have hB100 := hB100.keep E133 (fun hh => hB100.ne hB124_old (by decide) (Option.some.inj hh))
   have hcvB := hcvB.keep E133 (fun k hk => .inr (by simp at hk; omega))
   have hB114 := hB114.keep E133 (fun hh => hB114.ne hB124_old (by decide) (Option.some.inj hh))
   have hB119 := hB119.keep E133 (fun hh => hB119.ne hB124_old (by decide) (Option.some.inj hh))
   have hb := hb.step1 E133 (by omega)
   refine reg_nil (hK110 _ _ (seq_any fun K134 hK134 => one_reg (op_field fld45_5 (ev_hit hN rfl) (op_load1 (v := f.vv) one26 (ev_hit hN rfl) (hB87.cell rfl) (op_mkfn (cv := [(ptr b122 0), (ptr b117 0), (ptr b98 0)]) ⟨(ev_hit hN rfl), ⟨(ev_hit hN rfl), ⟨(ev_hit hN rfl), trivial⟩⟩⟩ ?_)))))
   have hL135 : LookR w132 0 b112 (.slice none 0 0) (.slice none 0 0) [] [] (fun y => y = b112 ∨ Bl (.slice none 0 0) y ∨ Bl (.slice none 0 0) y) := ⟨_, _, Nat.zero_le _, hB114, Own.nil _ _ _ _, Own.nil _ _ _ _, fun _ => Iff.rfl⟩
   have dF135 : ¬ (fun y => y = b112 ∨ Bl (.slice none 0 0) y ∨ Bl (.slice none 0 0) y) b122 := fun h => h.elim (fun h => by omega) fun h => h.elim (fun h => (by cases h)) fun h => (by cases h)
   refine op_fn (vs := [f.vv, (Value.func (.func 69) #[] #[(ptr b122 0), (ptr b117 0), (ptr b98 0)])]) ok31 ⟨(ev_hit hN rfl), ⟨(ev_hit hN rfl), trivial⟩⟩ (FoldIns (Bc := w104.heap.size) (B := 0) (Nat.zero_le _) hL135 hB119 hB100 dF135 hB124 (hcvB.mono (Nat.zero_le _) (Nat.le_refl _)) (by omega) (by omega) (by omega) (hfv.mono (by omega)) (by omega) (by omega)) ?_
   rintro _ w136 ⟨E137, rfl⟩
   have z_w136 := E137.size
   have hcvB := hcvB.keep E137 (fun k hk => .inr (by simp at hk; omega))
   have hb := hb.step1 E137 (by omega)
   refine op_assign (ev_hit hN rfl) (reg_nil (hK134 _ _ (wp_ret ?_)))
   refine ret1 rfl hd (ev_hit hN rfl) ⟨_, rfl, ?_⟩
   rw [show tabAt (D.map DTab.t) f.tb = some d90.t from ht90]
   have e9 : insE d90.t f = firstE (insL f.vals d90.t.cols) := by unfold insE; rw [if_neg (by omega)]; rfl
   simp only []; rw [e9]; exact ⟨hb, rfl⟩
 ·
  refine op_fn (vs := [(ptr l 0), (Value.string (bs f.tb))]) ok45 ⟨(ev_hit hN rfl), ⟨(ev_hit hN rfl), trivial⟩⟩ (lookTableF k13 (hT.mono (by omega)) hD hsz (by omega) h (by simp) (by simp)) ?_
  rintro _ w139 ⟨E140, rfl, F138, hL138, hN138⟩
  have bd141 := hB87.lt
  have z_w139 := E140.size
  have hb := hb.stepF E140 (fun _ _ q => q)
  refine op_move (ev_hit hN rfl) (op_extract (ev_hit hN rfl) rfl ?_)
  refine op_extract (ev_hit hN rfl) rfl ?_
  refine op_alloc (cs := [(Value.string (bs [])), (Value.slice none 0 0), (Value.slice none 0 0)]) zero55 rfl ?_
  intro w143 b144 lo_b144 hi_b144 hB146 E145
  have z_w143 := E145.size
  have hb := hb.step0 E145
  refine op_store (vs := [(Value.string (bs [])), (Value.slice none 0 0), (Value.slice none 0 0)]) (cs' := [(Value.string (bs [])), (Value.slice none 0 0), (Value.slice none 0 0)]) size55 (ev_hit hN rfl) (ev_hit hN rfl) rfl rfl rfl hB146 (Nat.le_of_ble_eq_true rfl) rfl ?_
  intro w150 hB146 E151
  have z_w150 := E151.size
  have hb := hb.step1 E151 (by omega)
  refine op_assign (ev_hit hN rfl) (reg_nil (hK89 _ _ (seq_any fun K152 hK152 => wp_block ?_)))
  refine seq_any fun K153 hK153 => ?_
  refine one_reg (op_move (ev_hit hN rfl) (op_bin (v := .bool true) (ev_hit hN rfl) rfl (by rw [binOp_neq]; rfl) (op_assign (ev_hit hN rfl) (reg_nil (hK153 _ _ (wp_cond_true (ev_hit hN rfl) ?_))))))
  refine seq_any fun K154 hK154 => one_reg (op_move (ev_hit hN rfl) (op_assign (ev_hit hN rfl) (reg_nil (hK154 _ _ (wp_ret (blk_ret (then_ret ( ?_))))))))
  refine ret1 rfl hd (ev_hit hN rfl) ⟨_, rfl, ?_⟩
  have hn9 : tabAt (D.map DTab.t) f.tb = none := by cases hh : tabAt (D.map DTab.t) f.tb with
    | none => rfl
    | some u => rw [hh] at k13; cases k13
  rw [hn9]; exact ⟨hb, rfl⟩

end Go.Proofs.Ythflnkfghogaoaa
