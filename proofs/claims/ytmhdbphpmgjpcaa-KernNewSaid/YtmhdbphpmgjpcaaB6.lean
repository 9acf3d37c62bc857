/- Walks, written by a program: what each function of the translation hands back. -/
import Derived.Test.YtmhdbphpmgjpcaaProg
import Derived.KernelRfl
import Derived.Test.YtmhdbphpmgjpcaaB5
namespace Go.Proofs.Ytmhdbphpmgjpcaa
open Go.Gx Go.RowKit
attribute [local irreducible] wpList wpStill Code.wp Calls

theorem refNew_ret (q : Int) (w : World) : Ret Try.prog 80 #[(Value.int .i64 q)] w (fun v' w' => Below w.heap.size w w' ∧ ∃ m, v' = ptr m 0) := by
 have hb := Below.refl w.heap.size w
 refine enter (N := 11) Try.func80 rfl rfl (by simp) fun a0 hN hd hA => ?_
 have s0 : a0.tmps.getD 0 undef = (Value.int .i64 q) := hA 0 (by simp)
 clear hA
 refine seq_any fun K1 hK1 => ?_
 refine one_reg ?_
 refine op_assign rfl ?_
 refine reg_nil ?_
 refine hK1 _ _ ?_
 refine seq_any fun K2 hK2 => ?_
 refine one_reg ?_
 refine op_move (ev_base hN rfl s0) ?_
 refine op_build (pv := [(0, (Value.int .i64 q))]) (v := (Value.agg #[(Value.int .i64 q), (Value.slice none 0 0)])) ⟨rfl, (ev_hit hN rfl), trivial⟩ (by kernel_rfl) ?_
 refine op_box (cs := [(Value.int .i64 q), (Value.slice none 0 0)]) (ev_hit hN rfl) rfl ?_
 intro w3 b4 lo_b4 hi_b4 hB6 E5
 have z_w3 := E5.size
 have hb := below_step0 hb E5 hb.size
 refine op_build (pv := []) (v := (Value.agg #[(Value.slice none 0 0)])) trivial (by kernel_rfl) ?_
 refine op_box (cs := [(Value.slice none 0 0)]) (ev_hit hN rfl) rfl ?_
 intro w7 b8 lo_b8 hi_b8 hB10 E9
 have z_w7 := E9.size
 have hB6 := hB6.keep0 E9
 have hb := below_step0 hb E9 hb.size
 refine op_make (n := 64) (y' := .const undef) slt189 rfl rfl rfl (by omega) (by omega) hb.size ?_
 intro v13 w11 hO14 E12 lo15
 have z_w11 := E12.size
 have hB6 := hB6.keep0 E12
 have hB10 := hB10.keep0 E12
 have hb := below_step0 hb E12 hb.size
 refine op_build (pv := [(1, (ptr b4 0)), (2, (ptr b8 0)), (3, v13)]) (v := (Value.agg #[(Value.slice none 0 0), (Value.slice none 0 0), (ptr b4 0), (ptr b8 0), v13, (Value.slice none 0 0)])) ⟨rfl, (ev_hit hN rfl), ⟨rfl, (ev_hit hN rfl), ⟨rfl, (ev_hit hN rfl), trivial⟩⟩⟩ (by obtain ⟨_, _, _, rfl⟩ := hO14.sl; kernel_rfl) ?_
 refine op_box (cs := [(Value.slice none 0 0), (Value.slice none 0 0), (ptr b4 0), (ptr b8 0), v13, (Value.slice none 0 0)]) (ev_hit hN rfl) rfl ?_
 intro w16 b17 lo_b17 hi_b17 hB19 E18
 have z_w16 := E18.size
 have hB6 := hB6.keep0 E18
 have hB10 := hB10.keep0 E18
 have hO14 := hO14.keep0 E18
 have hb := below_step0 hb E18 hb.size
 refine op_assign (ev_hit hN rfl) ?_
 refine reg_nil ?_
 refine hK2 _ _ ?_
 refine wp_ret ?_
 refine ret1 rfl hd (ev_hit hN rfl) ⟨_, rfl, ?_⟩
 -- path
 exact ⟨hb, _, rfl⟩

theorem newDB_ret (L : List CSn) (q : Int) (vL : Value) (w : World) (hL : L.length ≤ 9223372036854775807) (hll : ∀ x ∈ L, x.1.2.length ≤ 9223372036854775807 ∧ x.2.2.length ≤ 9223372036854775807) (hr : RdC w 0 w.heap.size 2 vL L.length (L.flatMap cells2)) (hlab : ∀ x9 ∈ (L.map Prod.fst), RdC w 0 w.heap.size 1 x9.1 x9.2.length (x9.2.map u16v)) (hown : ∀ x9 ∈ (L.map Prod.snd), RdC w 0 w.heap.size 1 x9.1 x9.2.length (x9.2.map u16v)) : Ret Try.prog 36 #[(Value.agg #[vL, (Value.int .i64 q)])] w (fun v' w' => Below w.heap.size w w' ∧ ((cfgOk L q = false ∧ v' = .tuple #[.pointer none, .int .i64 1]) ∨ (cfgOk L q = true ∧ ∃ (d : Nat) (F : Nat → Prop), v' = .tuple #[ptr d 0, .int .i64 0] ∧ DbR w' w.heap.size d (L.map ksOf) [] F))) := by
 have hb := Below.refl w.heap.size w
 refine enter (N := 71) Try.func36 rfl rfl (by simp) fun a0 hN hd hA => ?_
 have s0 : a0.tmps.getD 0 undef = (Value.agg #[vL, (Value.int .i64 q)]) := hA 0 (by simp)
 clear hA
 refine seq_any fun K20 hK20 => ?_
 refine one_reg ?_
 refine op_box (cs := [vL, (Value.int .i64 q)]) (ev_base hN rfl s0) rfl ?_
 intro w21 b22 lo_b22 hi_b22 hB24 E23
 have z_w21 := E23.size
 have hr := hr.keep0 E23
 have hlab : ∀ x9 ∈ (L.map Prod.fst), RdC w21 0 w.heap.size 1 x9.1 x9.2.length (x9.2.map u16v) := fun x9 hx9 => (hlab x9 hx9).keep0 E23
 have hown : ∀ x9 ∈ (L.map Prod.snd), RdC w21 0 w.heap.size 1 x9.1 x9.2.length (x9.2.map u16v) := fun x9 hx9 => (hown x9 hx9).keep0 E23
 have hb := below_step0 hb E23 hb.size
 refine op_assign rfl ?_
 refine op_assign rfl ?_
 refine reg_nil ?_
 refine hK20 _ _ ?_
 refine seq_any fun K25 hK25 => ?_
 refine seq_any fun K26 hK26 => ?_
 refine one_reg ?_
 refine op_field fld59_0 (ev_hit hN rfl) ?_
 refine op_load1 (v := vL) one57 (ev_hit hN rfl) (hB24.cell rfl) ?_
 refine op_len_rd Try.underlying57 (ev_hit hN rfl) hr ?_
 refine op_eql (ev_hit hN rfl) rfl (fun c10 => ?_) (fun c10 => ?_)
 · -- 10T
  refine op_move (ev_hit hN rfl) ?_
  refine g_false (j := 4) (dj := 11) (b := false) rfl rfl rfl (ev_hit hN rfl) rfl rfl ?_
  refine g_false (j := 4) (dj := 11) (b := false) rfl rfl rfl (ev_hit hN rfl) rfl rfl ?_
  refine g_false (j := 4) (dj := 11) (b := false) rfl rfl rfl (ev_hit hN rfl) rfl rfl ?_
  refine g_false (j := 4) (dj := 11) (b := false) rfl rfl rfl (ev_hit hN rfl) rfl rfl ?_
  refine op_pick_t (ev_hit hN rfl) rfl ?_
  refine reg_nil ?_
  refine hK26 _ _ ?_
  refine wp_cond_true (ev_hit hN rfl) ?_
  refine seq_any fun K27 hK27 => ?_
  refine one_reg ?_
  refine op_assign rfl ?_
  refine op_assign rfl ?_
  refine reg_nil ?_
  refine hK27 _ _ ?_
  refine wp_ret (then_ret ( ?_))
  refine ret2 rfl hd (ev_hit hN rfl) (ev_hit hN rfl) ⟨_, rfl, ?_⟩
  -- path 10T
  exact ⟨hb, .inl ⟨cfg_f1 (by omega), rfl⟩⟩
 · -- 10F
  refine op_move (ev_hit hN rfl) ?_
  refine g_true (j := 4) (dj := 11) (b := false) rfl rfl rfl (ev_hit hN rfl) ?_
  refine op_field fld59_0 (ev_hit hN rfl) ?_
  refine g_true (j := 4) (dj := 11) (b := false) rfl rfl rfl (ev_hit hN rfl) ?_
  refine op_load1 (v := vL) one57 (ev_hit hN rfl) (hB24.cell rfl) ?_
  refine g_true (j := 4) (dj := 11) (b := false) rfl rfl rfl (ev_hit hN rfl) ?_
  refine op_len_rd Try.underlying57 (ev_hit hN rfl) hr ?_
  refine g_true (j := 4) (dj := 11) (b := false) rfl rfl rfl (ev_hit hN rfl) ?_
  refine op_gtr (ev_hit hN rfl) rfl (fun c15 => ?_) (fun c15 => ?_)
  · -- 15T
   refine op_pick_f (ev_hit hN rfl) (ev_hit hN rfl) ?_
   refine reg_nil ?_
   refine hK26 _ _ ?_
   refine wp_cond_true (ev_hit hN rfl) ?_
   refine seq_any fun K28 hK28 => ?_
   refine one_reg ?_
   refine op_assign rfl ?_
   refine op_assign rfl ?_
   refine reg_nil ?_
   refine hK28 _ _ ?_
   refine wp_ret (then_ret ( ?_))
   refine ret2 rfl hd (ev_hit hN rfl) (ev_hit hN rfl) ⟨_, rfl, ?_⟩
   -- path 10F 15T
   exact ⟨hb, .inl ⟨cfg_f1 (by omega), rfl⟩⟩
  · -- 15F
   refine op_pick_f (ev_hit hN rfl) (ev_hit hN rfl) ?_
   refine reg_nil ?_
   refine hK26 _ _ ?_
   refine wp_cond_false (ev_hit hN rfl) ?_
   refine wp_skip ?_
   refine hK25 _ _ ?_
   refine seq_any fun K29 hK29 => ?_
   refine one_reg ?_
   refine op_field fld59_1 (ev_hit hN rfl) ?_
   refine op_load1 (v := (Value.int .i64 q)) one3 (ev_hit hN rfl) (hB24.cell rfl) ?_
   refine op_fn (vs := [(Value.int .i64 q)]) ok80 ⟨(ev_hit hN rfl), trivial⟩ (refNew_ret q _) ?_
   rintro _ w31 ⟨E32, m30, rfl⟩
   have E32 := grown_of_below E32
   have z_w31 := E32.size
   have hr := hr.keep0 E32
   have hlab : ∀ x9 ∈ (L.map Prod.fst), RdC w31 0 w.heap.size 1 x9.1 x9.2.length (x9.2.map u16v) := fun x9 hx9 => (hlab x9 hx9).keep0 E32
   have hown : ∀ x9 ∈ (L.map Prod.snd), RdC w31 0 w.heap.size 1 x9.1 x9.2.length (x9.2.map u16v) := fun x9 hx9 => (hown x9 hx9).keep0 E32
   have hB24 := hB24.keep0 E32
   have hb := below_step0 hb E32 hb.size
   refine op_build (pv := [(0, (ptr m30 0))]) (v := (Value.agg #[(ptr m30 0), (Value.slice none 0 0), (Value.slice none 0 0)])) ⟨rfl, (ev_hit hN rfl), trivial⟩ (by kernel_rfl) ?_
   refine op_box (cs := [(ptr m30 0), (Value.slice none 0 0), (Value.slice none 0 0)]) (ev_hit hN rfl) rfl ?_
   intro w33 b34 lo_b34 hi_b34 hB36 E35
   have z_w33 := E35.size
   have hr := hr.keep0 E35
   have hlab : ∀ x9 ∈ (L.map Prod.fst), RdC w33 0 w.heap.size 1 x9.1 x9.2.length (x9.2.map u16v) := fun x9 hx9 => (hlab x9 hx9).keep0 E35
   have hown : ∀ x9 ∈ (L.map Prod.snd), RdC w33 0 w.heap.size 1 x9.1 x9.2.length (x9.2.map u16v) := fun x9 hx9 => (hown x9 hx9).keep0 E35
   have hB24 := hB24.keep0 E35
   have hb := below_step0 hb E35 hb.size
   refine op_assign (ev_hit hN rfl) ?_
   refine reg_nil ?_
   refine hK29 _ _ ?_
   refine seq_any fun K37 hK37 => ?_
   refine seq_any fun K38 hK38 => ?_
   refine one_reg ?_
   refine op_assign rfl ?_
   refine reg_nil ?_
   refine hK38 _ _ ?_
   refine wp_block ?_
   refine loop_m (fun mz_ az_ w' => ∃ (i : Nat) (lv : Value) (C : List DC) (F0S : Nat → Prop), mz_ = L.length - i ∧ (az_.tmps.getD 1 undef = (ptr b22 0)) ∧ (az_.tmps.getD 4 undef = (ptr b34 0)) ∧ (az_.tmps.getD 5 undef = (Value.int .i64 ((i : Nat) : Int))) ∧ (i ≤ L.length) ∧ (C.length = i) ∧ (∀ j, j < i → mayL ((L.map Prod.fst).getD j D2).2 = true ∧ mayL ((L.map Prod.snd).getD j D2).2 = true) ∧ (Below w.heap.size w w') ∧ (w33.heap.size ≤ w'.heap.size) ∧ (RdC w' 0 w.heap.size 2 vL L.length (L.flatMap cells2)) ∧ (∀ x9 ∈ (L.map Prod.fst), RdC w' 0 w.heap.size 1 x9.1 x9.2.length (x9.2.map u16v)) ∧ (∀ x9 ∈ (L.map Prod.snd), RdC w' 0 w.heap.size 1 x9.1 x9.2.length (x9.2.map u16v)) ∧ (Bx w' b22 59 [vL, (Value.int .i64 q)]) ∧ (Bx w' b34 72 [(ptr m30 0), lv, (Value.slice none 0 0)]) ∧ (DSAll w' w.heap.size ((L.take i).map ksOf) C F0S) ∧ (Own w' w.heap.size 75 4 lv i (C.flatMap cellsD))) _ hN hd ⟨0, (Value.slice none 0 0), [], NoB, rfl, (sl_hit hN rfl), (sl_hit hN rfl), (sl_hit hN rfl), (Nat.zero_le _), rfl, (fun _ h => absurd h (Nat.not_lt_zero _)), hb, (Nat.le_refl _), hr, hlab, hown, hB24, hB36, (DSAll.nil _ _), (Own.nil _ _ _ _)⟩ ?_
   rintro _ a39 w39 hN39 hd39 ⟨i, lv, C, F0S, rfl, s39_1, s39_4, s39_5, hi, hC, hmay, hb, zl_w39, hr, hlab, hown, hB24, hxd, hS, hO40⟩
   have z_w39 := hb.size
   refine seq_any fun K41 hK41 => ?_
   refine seq_any fun K42 hK42 => ?_
   refine one_reg ?_
   refine op_move (ev_base hN39 rfl s39_5) ?_
   refine op_field fld59_0 (ev_base hN39 rfl s39_1) ?_
   refine op_load1 (v := vL) one57 (ev_hit hN39 rfl) (hB24.cell rfl) ?_
   refine op_len_rd Try.underlying57 (ev_hit hN39 rfl) hr ?_
   refine op_lss (ev_hit hN39 rfl) (ev_hit hN39 rfl) (fun c26 => ?_) (fun c26 => ?_)
   · -- 26T
    refine reg_nil ?_
    refine hK42 _ _ ?_
    refine wp_cond_true (ev_hit hN39 rfl) ?_
    refine wp_skip ?_
    refine hK41 _ _ ?_
    refine seq_join1 (N := 71) (fun az_ w' => ∃ (lv2 : Value) (C2 : List DC) (FS2 : Nat → Prop), (az_.tmps.getD 1 undef = (ptr b22 0)) ∧ (az_.tmps.getD 4 undef = (ptr b34 0)) ∧ (az_.tmps.getD 5 undef = (Value.int .i64 ((i : Nat) : Int))) ∧ (C2.length = i + 1) ∧ (∀ j, j < i + 1 → mayL ((L.map Prod.fst).getD j D2).2 = true ∧ mayL ((L.map Prod.snd).getD j D2).2 = true) ∧ (Below w.heap.size w w') ∧ (w39.heap.size ≤ w'.heap.size) ∧ (RdC w' 0 w.heap.size 2 vL L.length (L.flatMap cells2)) ∧ (∀ x9 ∈ (L.map Prod.fst), RdC w' 0 w.heap.size 1 x9.1 x9.2.length (x9.2.map u16v)) ∧ (∀ x9 ∈ (L.map Prod.snd), RdC w' 0 w.heap.size 1 x9.1 x9.2.length (x9.2.map u16v)) ∧ (Bx w' b22 59 [vL, (Value.int .i64 q)]) ∧ (Own w' w.heap.size 75 4 lv2 (i + 1) (C2.flatMap cellsD)) ∧ (Bx w' b34 72 [(ptr m30 0), lv2, (Value.slice none 0 0)]) ∧ (DSAll w' w.heap.size ((L.take (i + 1)).map ksOf) C2 FS2)) (fun hJ43 => ?_) ?_
    ·
     refine seq_any fun K45 hK45 => ?_
     refine wp_block ?_
     refine seq_any fun K46 hK46 => ?_
     refine one_reg ?_
     refine op_field fld59_0 (ev_base hN39 rfl s39_1) ?_
     refine op_load1 (v := vL) one57 (ev_hit hN39 rfl) (hB24.cell rfl) ?_
     have hla : RdC w39 0 w.heap.size 1 ((L.map Prod.fst).getD i D2).1 ((L.map Prod.fst).getD i D2).2.length (((L.map Prod.fst).getD i D2).2.map u16v) := hlab _ (getD_mem (by simp; omega))
     have how : RdC w39 0 w.heap.size 1 ((L.map Prod.snd).getD i D2).1 ((L.map Prod.snd).getD i D2).2.length (((L.map Prod.snd).getD i D2).2.map u16v) := hown _ (getD_mem (by simp; omega))
     have hlL := cs_len hll (show i < L.length by omega)
     refine op_move (ev_base hN39 rfl s39_5) ?_
     refine op_index_rd slt57 (ev_hit hN39 rfl) hr (ev_hit hN39 rfl) (by omega) (by omega) ?_
     intro b47 o48 h0b47 h1b47 hc49
     refine op_loadA (cs := [((L.map Prod.fst).getD i D2).1, ((L.map Prod.snd).getD i D2).1]) agg56 rfl (ev_hit hN39 rfl) (fun j u hu => hc49 j u (by have := (List.getElem?_eq_some_iff.1 hu).1; simpa using this) ((el_cs (i := i) (by omega) (by omega)) j u hu)) ?_
     refine op_alloc (cs := [(Value.slice none 0 0), (Value.slice none 0 0)]) zero56 rfl ?_
     intro w50 b51 lo_b51 hi_b51 hB53 E52
     have dj54 : ¬ F0S b51 := fun hf => by have := (hS.lt _ hf).2; omega
     have z_w50 := E52.size
     have hr := hr.keep0 E52
     have hlab : ∀ x9 ∈ (L.map Prod.fst), RdC w50 0 w.heap.size 1 x9.1 x9.2.length (x9.2.map u16v) := fun x9 hx9 => (hlab x9 hx9).keep0 E52
     have hown : ∀ x9 ∈ (L.map Prod.snd), RdC w50 0 w.heap.size 1 x9.1 x9.2.length (x9.2.map u16v) := fun x9 hx9 => (hown x9 hx9).keep0 E52
     have hB24 := hB24.keep0 E52
     have hxd := hxd.keep0 E52
     have hS := hS.keepG (Gr.of0 E52 NoB) (fun _ _ h => h)
     have hO40 := hO40.keep0 E52
     have hla := hla.keep0 E52
     have how := how.keep0 E52
     have hb := below_step0 hb E52 hb.size
     have hB53_old := hB53
     refine op_store (vs := [((L.map Prod.fst).getD i D2).1, ((L.map Prod.snd).getD i D2).1]) (cs' := [((L.map Prod.fst).getD i D2).1, ((L.map Prod.snd).getD i D2).1]) size56 (ev_hit hN39 rfl) (ev_hit hN39 rfl) rfl rfl (by simp only [List.all_cons, List.all_nil, Bool.true_and, Bool.and_true, hla.one, how.one]; try rfl) hB53 (Nat.le_of_ble_eq_true rfl) rfl ?_
     intro w57 hB53 E58
     have z_w57 := E58.size
     have hr := hr.keep E58 (fun k hk => .inr (by simp at hk; omega))
     have hlab : ∀ x9 ∈ (L.map Prod.fst), RdC w57 0 w.heap.size 1 x9.1 x9.2.length (x9.2.map u16v) := fun x9 hx9 => (hlab x9 hx9).keep E58 (fun k hk => .inr (by simp at hk; omega))
     have hown : ∀ x9 ∈ (L.map Prod.snd), RdC w57 0 w.heap.size 1 x9.1 x9.2.length (x9.2.map u16v) := fun x9 hx9 => (hown x9 hx9).keep E58 (fun k hk => .inr (by simp at hk; omega))
     have hB24 := hB24.keep E58 (by simp; omega)
     have hxd := hxd.keep E58 (by simp; omega)
     have hS := hS.keepG (Gr.of E58) (Dj.one dj54)
     have hO40 := hO40.keepX hB53_old E58 (by decide)
     have hla := hla.keep E58 (fun k hk => .inr (by simp at hk; omega))
     have how := how.keep E58 (fun k hk => .inr (by simp at hk; omega))
     have hb := below_step1 hb E58 hb.size (by omega)
     refine reg_nil ?_
     refine hK46 _ _ ?_
     refine seq_any fun K59 hK59 => ?_
     refine seq_any fun K60 hK60 => ?_
     refine one_reg ?_
     refine op_field fld56_0 (ev_hit hN39 rfl) ?_
     refine op_load1 (v := ((L.map Prod.fst).getD i D2).1) one54 (ev_hit hN39 rfl) (hB53.cell rfl) ?_
     refine op_fn (vs := [((L.map Prod.fst).getD i D2).1]) ok33 ⟨(ev_hit hN39 rfl), trivial⟩ (refMay_ret ((L.map Prod.fst).getD i D2).2 _ _ (by first | assumption | omega | (simp only [List.length_append, List.length_cons, List.length_nil, List.length_drop, List.length_take]; omega) | (dsimp only; omega) | decide | (simp [keyV, be8_len]; done)) (show RdC w57 0 w57.heap.size 1 ((L.map Prod.fst).getD i D2).1 ((L.map Prod.fst).getD i D2).2.length (((L.map Prod.fst).getD i D2).2.map u16v) from by have hh : RdC w57 0 w57.heap.size 1 _ _ _ := (hla.mono (L' := 0) (B' := w57.heap.size) (Nat.zero_le _) (by omega)); first | exact hh | exact hh.cast (by first | omega | (simp; try omega)) (by first | rfl | simp [u16v]))) ?_
     rintro _ w61 ⟨E62, rfl⟩
     have E62 := grown_of_below E62
     have z_w61 := E62.size
     have hr := hr.keep0 E62
     have hlab : ∀ x9 ∈ (L.map Prod.fst), RdC w61 0 w.heap.size 1 x9.1 x9.2.length (x9.2.map u16v) := fun x9 hx9 => (hlab x9 hx9).keep0 E62
     have hown : ∀ x9 ∈ (L.map Prod.snd), RdC w61 0 w.heap.size 1 x9.1 x9.2.length (x9.2.map u16v) := fun x9 hx9 => (hown x9 hx9).keep0 E62
     have hB24 := hB24.keep0 E62
     have hxd := hxd.keep0 E62
     have hS := hS.keepG (Gr.of0 E62 NoB) (fun _ _ h => h)
     have hO40 := hO40.keep0 E62
     have hla := hla.keep0 E62
     have how := how.keep0 E62
     have hB53 := hB53.keep0 E62
     have hb := below_step0 hb E62 hb.size
     rcases Bool.eq_false_or_eq_true ((mayL ((L.map Prod.fst).getD i D2).2)) with c36 | c36
     · -- 36T
      rw [c36]
      refine op_not (ev_hit hN39 rfl) ?_
      refine op_move (ev_hit hN39 rfl) ?_
      refine g_true (j := 4) (dj := 38) (b := false) rfl rfl rfl (ev_hit hN39 rfl) ?_
      refine op_field fld56_1 (ev_hit hN39 rfl) ?_
      refine g_true (j := 4) (dj := 38) (b := false) rfl rfl rfl (ev_hit hN39 rfl) ?_
      refine op_load1 (v := ((L.map Prod.snd).getD i D2).1) one54 (ev_hit hN39 rfl) (hB53.cell rfl) ?_
      refine g_true (j := 4) (dj := 38) (b := false) rfl rfl rfl (ev_hit hN39 rfl) ?_
      refine op_fn (vs := [((L.map Prod.snd).getD i D2).1]) ok33 ⟨(ev_hit hN39 rfl), trivial⟩ (refMay_ret ((L.map Prod.snd).getD i D2).2 _ _ (by first | assumption | omega | (simp only [List.length_append, List.length_cons, List.length_nil, List.length_drop, List.length_take]; omega) | (dsimp only; omega) | decide | (simp [keyV, be8_len]; done)) (show RdC w61 0 w61.heap.size 1 ((L.map Prod.snd).getD i D2).1 ((L.map Prod.snd).getD i D2).2.length (((L.map Prod.snd).getD i D2).2.map u16v) from by have hh : RdC w61 0 w61.heap.size 1 _ _ _ := (how.mono (L' := 0) (B' := w61.heap.size) (Nat.zero_le _) (by omega)); first | exact hh | exact hh.cast (by first | omega | (simp; try omega)) (by first | rfl | simp [u16v]))) ?_
      rintro _ w63 ⟨E64, rfl⟩
      have E64 := grown_of_below E64
      have z_w63 := E64.size
      have hr := hr.keep0 E64
      have hlab : ∀ x9 ∈ (L.map Prod.fst), RdC w63 0 w.heap.size 1 x9.1 x9.2.length (x9.2.map u16v) := fun x9 hx9 => (hlab x9 hx9).keep0 E64
      have hown : ∀ x9 ∈ (L.map Prod.snd), RdC w63 0 w.heap.size 1 x9.1 x9.2.length (x9.2.map u16v) := fun x9 hx9 => (hown x9 hx9).keep0 E64
      have hB24 := hB24.keep0 E64
      have hxd := hxd.keep0 E64
      have hS := hS.keepG (Gr.of0 E64 NoB) (fun _ _ h => h)
      have hO40 := hO40.keep0 E64
      have hla := hla.keep0 E64
      have how := how.keep0 E64
      have hB53 := hB53.keep0 E64
      have hb := below_step0 hb E64 hb.size
      rcases Bool.eq_false_or_eq_true ((mayL ((L.map Prod.snd).getD i D2).2)) with c41 | c41
      · -- 41T
       rw [c41]
       refine g_true (j := 4) (dj := 38) (b := false) rfl rfl rfl (ev_hit hN39 rfl) ?_
       refine op_not (ev_hit hN39 rfl) ?_
       refine op_pick_f (ev_hit hN39 rfl) (ev_hit hN39 rfl) ?_
       refine reg_nil ?_
       refine hK60 _ _ ?_
       refine wp_cond_false (ev_hit hN39 rfl) ?_
       refine wp_skip ?_
       refine hK59 _ _ ?_
       have hm8 := mayL_len c36
       have ho8 := mayL_len c41
       have dj65 := hS.notBx hB24 (by decide) (by decide)
       have dj66 := hS.notBx hxd (by decide) (by decide)
       have dj67 := hS.notOwn hO40 (by decide) (by decide)
       refine reg_split (hd := [_, _, _, _, _, _, _, _, _, _, _, _, _, _, _, _]) (tl := _) 16 mixed (by kernel_rfl) rfl rfl ?_
       refine any_tree (φ := phiV [(fun uz => uz = (ptr b34 0)), (fun uz => uz = (ptr b34 0)), (fun uz => uz = (ptr b34 0)), (fun uz => uz = (ptr b34 1)), (fun uz => uz = lv), (fun _ => True), (fun uz => uz = (ptr b51 0)), (fun uz => uz = ((L.map Prod.fst).getD i D2).1), (fun _ => True), (fun _ => True), (fun uz => uz = (ptr b51 1)), (fun uz => uz = ((L.map Prod.snd).getD i D2).1), (fun _ => True), (fun _ => True), (fun _ => True), (fun _ => True)]) (G := fun w' => Bx w' b34 72 [(ptr m30 0), lv, (Value.slice none 0 0)] ∧ Bx w' b51 56 [((L.map Prod.fst).getD i D2).1, ((L.map Prod.snd).getD i D2).1]) [5, 8, 9, 12, 13, 14, 15] (by kernel_rfl) (by kernel_rfl) (by kernel_rfl) (by kernel_rfl) (by kernel_rfl) hN39 (fun w1 w2 E h => by obtain ⟨h0, h1⟩ := h; exact ⟨h0.keep0 E, h1.keep0 E⟩) ⟨hxd, hB53⟩ (ObRs9.cons ?_ (ObRs9.cons ?_ (ObRs9.cons ?_ (ObRs9.cons ?_ (ObRs9.cons ?_ (ObRs9.pass rfl (ObRs9.cons ?_ (ObRs9.cons ?_ (ObRs9.pass rfl (ObRs9.pass rfl (ObRs9.cons ?_ (ObRs9.cons ?_ (ObRs9.pass rfl (ObRs9.pass rfl (ObRs9.pass rfl (ObRs9.pass rfl (ObRs9.nil))))))))))))))))) (by simp only [putsL_defers]) ?_
       ·
        intro eA aA wA hNA hGA hbsA hdpA
        have qA_4 := (hbsA 4 rfl).trans (sl_base hN39 rfl s39_4)
        refine op_move (ev_base hNA rfl qA_4) ?_
        exact obT_end rfl rfl
       ·
        intro eA aA wA hNA hGA hbsA hdpA
        have qA_4 := (hbsA 4 rfl).trans (sl_base hN39 rfl s39_4)
        refine op_move (ev_base hNA rfl qA_4) ?_
        exact obT_end rfl rfl
       ·
        intro eA aA wA hNA hGA hbsA hdpA
        have qA_45 : Sl aA 45 (ptr b34 0) := (hdpA 1 _ 45 (by kernel_rfl) rfl rfl).2 rfl
        refine op_nil (ev_base hNA rfl qA_45) ?_
        exact obT_end rfl rfl
       ·
        intro eA aA wA hNA hGA hbsA hdpA
        have qA_46 : Sl aA 46 (ptr b34 0) := (hdpA 2 _ 46 (by kernel_rfl) rfl rfl).2 rfl
        refine op_field fld72_1 (ev_base hNA rfl qA_46) ?_
        exact obT_end rfl rfl
       ·
        intro eA aA wA hNA hGA hbsA hdpA
        have qA_47 : Sl aA 47 (ptr b34 1) := (hdpA 3 _ 47 (by kernel_rfl) rfl rfl).2 rfl
        obtain ⟨hxd, hB53⟩ := hGA
        refine op_load1 (v := lv) one69 (ev_base hNA rfl qA_47) (hxd.cell rfl) ?_
        exact obT_end rfl rfl
       ·
        intro eA aA wA hNA hGA hbsA hdpA
        have qA_6 := (hbsA 6 rfl).trans (sl_hit hN39 rfl)
        refine op_field fld56_0 (ev_base hNA rfl qA_6) ?_
        exact obT_end rfl rfl
       ·
        intro eA aA wA hNA hGA hbsA hdpA
        have qA_50 : Sl aA 50 (ptr b51 0) := (hdpA 6 _ 50 (by kernel_rfl) rfl rfl).2 rfl
        obtain ⟨hxd, hB53⟩ := hGA
        refine op_load1 (v := ((L.map Prod.fst).getD i D2).1) one54 (ev_base hNA rfl qA_50) (hB53.cell rfl) ?_
        exact obT_end rfl rfl
       ·
        intro eA aA wA hNA hGA hbsA hdpA
        have qA_6 := (hbsA 6 rfl).trans (sl_hit hN39 rfl)
        refine op_field fld56_1 (ev_base hNA rfl qA_6) ?_
        exact obT_end rfl rfl
       ·
        intro eA aA wA hNA hGA hbsA hdpA
        have qA_54 : Sl aA 54 (ptr b51 1) := (hdpA 10 _ 54 (by kernel_rfl) rfl rfl).2 rfl
        obtain ⟨hxd, hB53⟩ := hGA
        refine op_load1 (v := ((L.map Prod.snd).getD i D2).1) one54 (ev_base hNA rfl qA_54) (hB53.cell rfl) ?_
        exact obT_end rfl rfl
       ·
        refine kt_step (rs := [5, 9]) (by kernel_rfl) ?_
        refine more_mem ?_ ?_
        · -- first 5
         intro w69 E69 _ a69 hN69 hbs69 hdp69 o_ ho_; obtain rfl := Option.some.inj ho_
         have z_w69 := E69.size
         have hr := hr.keep0 E69
         have hlab : ∀ x9 ∈ (L.map Prod.fst), RdC w69 0 w.heap.size 1 x9.1 x9.2.length (x9.2.map u16v) := fun x9 hx9 => (hlab x9 hx9).keep0 E69
         have hown : ∀ x9 ∈ (L.map Prod.snd), RdC w69 0 w.heap.size 1 x9.1 x9.2.length (x9.2.map u16v) := fun x9 hx9 => (hown x9 hx9).keep0 E69
         have hB24 := hB24.keep0 E69
         have hxd := hxd.keep0 E69
         have hS := hS.keepG (Gr.of0 E69 NoB) (fun _ _ h => h)
         have hO40 := hO40.keep0 E69
         have hla := hla.keep0 E69
         have how := how.keep0 E69
         have hB53 := hB53.keep0 E69
         have hb := below_step0 hb E69 hb.size
         refine op_bslice (e := 46) (pv := []) (cs := []) trivial (by kernel_rfl) ?_
         intro w70 b71 lo_b71 hi_b71 hB73 E72
         have dj74 : ¬ F0S b71 := fun hf => by have := (hS.lt _ hf).2; omega
         have z_w70 := E72.size
         have hr := hr.keep0 E72
         have hlab : ∀ x9 ∈ (L.map Prod.fst), RdC w70 0 w.heap.size 1 x9.1 x9.2.length (x9.2.map u16v) := fun x9 hx9 => (hlab x9 hx9).keep0 E72
         have hown : ∀ x9 ∈ (L.map Prod.snd), RdC w70 0 w.heap.size 1 x9.1 x9.2.length (x9.2.map u16v) := fun x9 hx9 => (hown x9 hx9).keep0 E72
         have hB24 := hB24.keep0 E72
         have hxd := hxd.keep0 E72
         have hS := hS.keepG (Gr.of0 E72 NoB) (fun _ _ h => h)
         have hO40 := hO40.keep0 E72
         have hla := hla.keep0 E72
         have how := how.keep0 E72
         have hB53 := hB53.keep0 E72
         have hb := below_step0 hb E72 hb.size
         refine kt_end rfl ⟨hxd, hB53⟩ ?_
         refine kt_step (rs := [8, 9]) (by kernel_rfl) ?_
         refine more_mem ?_ ?_
         · -- first 8
          intro w76 E76 _ a76 hN76 hbs76 hdp76 o_ ho_; obtain rfl := Option.some.inj ho_
          have z_w76 := E76.size
          have hr := hr.keep0 E76
          have hlab : ∀ x9 ∈ (L.map Prod.fst), RdC w76 0 w.heap.size 1 x9.1 x9.2.length (x9.2.map u16v) := fun x9 hx9 => (hlab x9 hx9).keep0 E76
          have hown : ∀ x9 ∈ (L.map Prod.snd), RdC w76 0 w.heap.size 1 x9.1 x9.2.length (x9.2.map u16v) := fun x9 hx9 => (hown x9 hx9).keep0 E76
          have hB24 := hB24.keep0 E76
          have hxd := hxd.keep0 E76
          have hS := hS.keepG (Gr.of0 E76 NoB) (fun _ _ h => h)
          have hO40 := hO40.keep0 E76
          have hla := hla.keep0 E76
          have how := how.keep0 E76
          have hB53 := hB53.keep0 E76
          have hB73 := hB73.keep0 E76
          have hb := below_step0 hb E76 hb.size
          have q76_49 : Sl a76 49 (Value.slice (some ⟨b71, 0, none⟩) 0 0) := (Option.some.inj ((hdp76 5 _ 49 (by kernel_rfl) rfl rfl).1 rfl)).symm
          have q76_51 : Sl a76 51 ((L.map Prod.fst).getD i D2).1 := (hdp76 7 _ 51 (by kernel_rfl) rfl rfl).2 rfl
          have hP82 := (Own.ofBx (base := w.heap.size) (sz := 1) (n := 0) hB73 rfl (by decide) (by omega))
          refine op_append slt54 (ev_base hN76 rfl q76_49) hP82 (ev_base hN76 rfl q76_51) (Src.ofRd Try.underlying54 (by decide) hla (one_u16 _)) (by unfold maxLen; omega) (by omega) hb.size ?_
          intro v77 w78 hO80 E79 hm81
          have dj83 : Dj F0S (Bl v77) := Dj.step hm81 (fun k hk => (hS.lt k hk).2) (Dj.one dj74)
          have z_w78 := E79.size
          have hr := hr.keepO hP82 E79 (by omega)
          have hlab : ∀ x9 ∈ (L.map Prod.fst), RdC w78 0 w.heap.size 1 x9.1 x9.2.length (x9.2.map u16v) := fun x9 hx9 => (hlab x9 hx9).keepO hP82 E79 (by omega)
          have hown : ∀ x9 ∈ (L.map Prod.snd), RdC w78 0 w.heap.size 1 x9.1 x9.2.length (x9.2.map u16v) := fun x9 hx9 => (hown x9 hx9).keepO hP82 E79 (by omega)
          have hB24 := hB24.keep E79 (by simp [Value.ownBlock]; try omega)
          have hxd := hxd.keep E79 (by simp [Value.ownBlock]; try omega)
          have hS := hS.keepG (Gr.of E79) (Dj.one dj74)
          have hO40 := hO40.keepT hP82 E79 (by decide)
          have hla := hla.keepO hP82 E79 (by omega)
          have how := how.keepO hP82 E79 (by omega)
          have hB53 := hB53.keep E79 (by simp [Value.ownBlock]; try omega)
          have hb := below_stepO hb hP82 E79 hb.size (by omega)
          have hO80 : Own w78 w.heap.size 46 1 v77 (0 + ((L.map Prod.fst).getD i D2).2.length) ((((L.map Prod.fst).getD i D2).2).map u16v) := by simpa [u8v, u16v, sv] using hO80
          refine kt_end rfl ⟨hxd, hB53⟩ ?_
          refine kt_step (rs := [9]) (by kernel_rfl) ?_
          refine one_mem ?_
          intro w85 E85 _ a85 hN85 hbs85 hdp85 o_ ho_; obtain rfl := Option.some.inj ho_
          have z_w85 := E85.size
          have hr := hr.keep0 E85
          have hlab : ∀ x9 ∈ (L.map Prod.fst), RdC w85 0 w.heap.size 1 x9.1 x9.2.length (x9.2.map u16v) := fun x9 hx9 => (hlab x9 hx9).keep0 E85
          have hown : ∀ x9 ∈ (L.map Prod.snd), RdC w85 0 w.heap.size 1 x9.1 x9.2.length (x9.2.map u16v) := fun x9 hx9 => (hown x9 hx9).keep0 E85
          have hB24 := hB24.keep0 E85
          have hxd := hxd.keep0 E85
          have hS := hS.keepG (Gr.of0 E85 NoB) (fun _ _ h => h)
          have hO40 := hO40.keep0 E85
          have hla := hla.keep0 E85
          have how := how.keep0 E85
          have hB53 := hB53.keep0 E85
          have hO80 := hO80.keep0 E85
          have hb := below_step0 hb E85 hb.size
          refine op_bslice (e := 46) (pv := []) (cs := []) trivial (by kernel_rfl) ?_
          intro w86 b87 lo_b87 hi_b87 hB89 E88
          have dj90 : ¬ F0S b87 := fun hf => by have := (hS.lt _ hf).2; omega
          have ne_b87_v77 : v77.ownBlock ≠ some b87 := fun hh => by have := (hO80.lt _ hh).2; omega
          have z_w86 := E88.size
          have hr := hr.keep0 E88
          have hlab : ∀ x9 ∈ (L.map Prod.fst), RdC w86 0 w.heap.size 1 x9.1 x9.2.length (x9.2.map u16v) := fun x9 hx9 => (hlab x9 hx9).keep0 E88
          have hown : ∀ x9 ∈ (L.map Prod.snd), RdC w86 0 w.heap.size 1 x9.1 x9.2.length (x9.2.map u16v) := fun x9 hx9 => (hown x9 hx9).keep0 E88
          have hB24 := hB24.keep0 E88
          have hxd := hxd.keep0 E88
          have hS := hS.keepG (Gr.of0 E88 NoB) (fun _ _ h => h)
          have hO40 := hO40.keep0 E88
          have hla := hla.keep0 E88
          have how := how.keep0 E88
          have hB53 := hB53.keep0 E88
          have hO80 := hO80.keep0 E88
          have hb := below_step0 hb E88 hb.size
          refine kt_end rfl ⟨hxd, hB53⟩ ?_
          refine kt_step (rs := [12]) (by kernel_rfl) ?_
          refine one_mem ?_
          intro w92 E92 _ a92 hN92 hbs92 hdp92 o_ ho_; obtain rfl := Option.some.inj ho_
          have z_w92 := E92.size
          have hr := hr.keep0 E92
          have hlab : ∀ x9 ∈ (L.map Prod.fst), RdC w92 0 w.heap.size 1 x9.1 x9.2.length (x9.2.map u16v) := fun x9 hx9 => (hlab x9 hx9).keep0 E92
          have hown : ∀ x9 ∈ (L.map Prod.snd), RdC w92 0 w.heap.size 1 x9.1 x9.2.length (x9.2.map u16v) := fun x9 hx9 => (hown x9 hx9).keep0 E92
          have hB24 := hB24.keep0 E92
          have hxd := hxd.keep0 E92
          have hS := hS.keepG (Gr.of0 E92 NoB) (fun _ _ h => h)
          have hO40 := hO40.keep0 E92
          have hla := hla.keep0 E92
          have how := how.keep0 E92
          have hB53 := hB53.keep0 E92
          have hO80 := hO80.keep0 E92
          have hB89 := hB89.keep0 E92
          have hb := below_step0 hb E92 hb.size
          have q92_53 : Sl a92 53 (Value.slice (some ⟨b87, 0, none⟩) 0 0) := (Option.some.inj ((hdp92 9 _ 53 (by kernel_rfl) rfl rfl).1 rfl)).symm
          have q92_55 : Sl a92 55 ((L.map Prod.snd).getD i D2).1 := (hdp92 11 _ 55 (by kernel_rfl) rfl rfl).2 rfl
          have hP98 := (Own.ofBx (base := w.heap.size) (sz := 1) (n := 0) hB89 rfl (by decide) (by omega))
          refine op_append slt54 (ev_base hN92 rfl q92_53) hP98 (ev_base hN92 rfl q92_55) (Src.ofRd Try.underlying54 (by decide) how (one_u16 _)) (by unfold maxLen; omega) (by omega) hb.size ?_
          intro v93 w94 hO96 E95 hm97
          have dj99 : DJ v77 (Value.slice (some ⟨b87, 0, none⟩) 0 0) := fun k hk hg => by simp [Value.ownBlock] at hg; subst hg; exact ne_b87_v77 hk
          have dj100 : DJ v77 v93 := DJ.step hm97 (fun k hk => (hO80.lt k hk).2) dj99
          have dj101 : Dj F0S (Bl v93) := Dj.step hm97 (fun k hk => (hS.lt k hk).2) (Dj.one dj90)
          have z_w94 := E95.size
          have hr := hr.keepO hP98 E95 (by omega)
          have hlab : ∀ x9 ∈ (L.map Prod.fst), RdC w94 0 w.heap.size 1 x9.1 x9.2.length (x9.2.map u16v) := fun x9 hx9 => (hlab x9 hx9).keepO hP98 E95 (by omega)
          have hown : ∀ x9 ∈ (L.map Prod.snd), RdC w94 0 w.heap.size 1 x9.1 x9.2.length (x9.2.map u16v) := fun x9 hx9 => (hown x9 hx9).keepO hP98 E95 (by omega)
          have hB24 := hB24.keep E95 (by simp [Value.ownBlock]; try omega)
          have hxd := hxd.keep E95 (by simp [Value.ownBlock]; try omega)
          have hS := hS.keepG (Gr.of E95) (Dj.one dj90)
          have hO40 := hO40.keepT hP98 E95 (by decide)
          have hla := hla.keepO hP98 E95 (by omega)
          have how := how.keepO hP98 E95 (by omega)
          have hB53 := hB53.keep E95 (by simp [Value.ownBlock]; try omega)
          have hO80 := hO80.keepD E95 dj99
          have hb := below_stepO hb hP98 E95 hb.size (by omega)
          have hO96 : Own w94 w.heap.size 46 1 v93 (0 + ((L.map Prod.snd).getD i D2).2.length) ((((L.map Prod.snd).getD i D2).2).map u16v) := by simpa [u8v, u16v, sv] using hO96
          refine kt_end rfl ⟨hxd, hB53⟩ ?_
          refine kt_step (rs := [13]) (by kernel_rfl) ?_
          refine one_mem ?_
          intro w103 E103 _ a103 hN103 hbs103 hdp103 o_ ho_; obtain rfl := Option.some.inj ho_
          have z_w103 := E103.size
          have hr := hr.keep0 E103
          have hlab : ∀ x9 ∈ (L.map Prod.fst), RdC w103 0 w.heap.size 1 x9.1 x9.2.length (x9.2.map u16v) := fun x9 hx9 => (hlab x9 hx9).keep0 E103
          have hown : ∀ x9 ∈ (L.map Prod.snd), RdC w103 0 w.heap.size 1 x9.1 x9.2.length (x9.2.map u16v) := fun x9 hx9 => (hown x9 hx9).keep0 E103
          have hB24 := hB24.keep0 E103
          have hxd := hxd.keep0 E103
          have hS := hS.keepG (Gr.of0 E103 NoB) (fun _ _ h => h)
          have hO40 := hO40.keep0 E103
          have hla := hla.keep0 E103
          have how := how.keep0 E103
          have hB53 := hB53.keep0 E103
          have hO80 := hO80.keep0 E103
          have hO96 := hO96.keep0 E103
          have hb := below_step0 hb E103 hb.size
          have q103_52 : Sl a103 52 v77 := (Option.some.inj ((hdp103 8 _ 52 (by kernel_rfl) rfl rfl).1 rfl)).symm
          have q103_56 : Sl a103 56 v93 := (Option.some.inj ((hdp103 12 _ 56 (by kernel_rfl) rfl rfl).1 rfl)).symm
          refine op_build (pv := [(0, v77), (1, v93)]) (v := (Value.agg #[v77, v93, (Value.slice none 0 0), (Value.bool false)])) ⟨rfl, (ev_base hN103 rfl q103_52), ⟨rfl, (ev_base hN103 rfl q103_56), trivial⟩⟩ (by obtain ⟨_, _, _, rfl⟩ := hO80.sl; obtain ⟨_, _, _, rfl⟩ := hO96.sl; kernel_rfl) ?_
          refine kt_end rfl ⟨hxd, hB53⟩ ?_
          refine kt_step (rs := [14]) (by kernel_rfl) ?_
          refine one_mem ?_
          intro w105 E105 _ a105 hN105 hbs105 hdp105 o_ ho_; obtain rfl := Option.some.inj ho_
          have z_w105 := E105.size
          have hr := hr.keep0 E105
          have hlab : ∀ x9 ∈ (L.map Prod.fst), RdC w105 0 w.heap.size 1 x9.1 x9.2.length (x9.2.map u16v) := fun x9 hx9 => (hlab x9 hx9).keep0 E105
          have hown : ∀ x9 ∈ (L.map Prod.snd), RdC w105 0 w.heap.size 1 x9.1 x9.2.length (x9.2.map u16v) := fun x9 hx9 => (hown x9 hx9).keep0 E105
          have hB24 := hB24.keep0 E105
          have hxd := hxd.keep0 E105
          have hS := hS.keepG (Gr.of0 E105 NoB) (fun _ _ h => h)
          have hO40 := hO40.keep0 E105
          have hla := hla.keep0 E105
          have how := how.keep0 E105
          have hB53 := hB53.keep0 E105
          have hO80 := hO80.keep0 E105
          have hO96 := hO96.keep0 E105
          have hb := below_step0 hb E105 hb.size
          have q105_57 : Sl a105 57 (Value.agg #[v77, v93, (Value.slice none 0 0), (Value.bool false)]) := (Option.some.inj ((hdp105 13 _ 57 (by kernel_rfl) rfl rfl).1 rfl)).symm
          refine op_bslice (e := 75) (pv := [(0, (Value.agg #[v77, v93, (Value.slice none 0 0), (Value.bool false)]))]) (cs := [v77, v93, (Value.slice none 0 0), (Value.bool false)]) ⟨rfl, (ev_base hN105 rfl q105_57), trivial⟩ (by obtain ⟨_, _, _, rfl⟩ := hO80.sl; obtain ⟨_, _, _, rfl⟩ := hO96.sl; kernel_rfl) ?_
          intro w106 b107 lo_b107 hi_b107 hB109 E108
          have dj110 : ¬ F0S b107 := fun hf => by have := (hS.lt _ hf).2; omega
          have ne_b107_lv : lv.ownBlock ≠ some b107 := fun hh => by have := (hO40.lt _ hh).2; omega
          have z_w106 := E108.size
          have hr := hr.keep0 E108
          have hlab : ∀ x9 ∈ (L.map Prod.fst), RdC w106 0 w.heap.size 1 x9.1 x9.2.length (x9.2.map u16v) := fun x9 hx9 => (hlab x9 hx9).keep0 E108
          have hown : ∀ x9 ∈ (L.map Prod.snd), RdC w106 0 w.heap.size 1 x9.1 x9.2.length (x9.2.map u16v) := fun x9 hx9 => (hown x9 hx9).keep0 E108
          have hB24 := hB24.keep0 E108
          have hxd := hxd.keep0 E108
          have hS := hS.keepG (Gr.of0 E108 NoB) (fun _ _ h => h)
          have hO40 := hO40.keep0 E108
          have hla := hla.keep0 E108
          have how := how.keep0 E108
          have hB53 := hB53.keep0 E108
          have hO80 := hO80.keep0 E108
          have hO96 := hO96.keep0 E108
          have hb := below_step0 hb E108 hb.size
          refine kt_end rfl ⟨hxd, hB53⟩ ?_
          refine kt_step (rs := [15]) (by kernel_rfl) ?_
          refine one_mem ?_
          intro w112 E112 _ a112 hN112 hbs112 hdp112 o_ ho_; obtain rfl := Option.some.inj ho_
          have z_w112 := E112.size
          have hr := hr.keep0 E112
          have hlab : ∀ x9 ∈ (L.map Prod.fst), RdC w112 0 w.heap.size 1 x9.1 x9.2.length (x9.2.map u16v) := fun x9 hx9 => (hlab x9 hx9).keep0 E112
          have hown : ∀ x9 ∈ (L.map Prod.snd), RdC w112 0 w.heap.size 1 x9.1 x9.2.length (x9.2.map u16v) := fun x9 hx9 => (hown x9 hx9).keep0 E112
          have hB24 := hB24.keep0 E112
          have hxd := hxd.keep0 E112
          have hS := hS.keepG (Gr.of0 E112 NoB) (fun _ _ h => h)
          have hO40 := hO40.keep0 E112
          have hla := hla.keep0 E112
          have how := how.keep0 E112
          have hB53 := hB53.keep0 E112
          have hO80 := hO80.keep0 E112
          have hO96 := hO96.keep0 E112
          have hB109 := hB109.keep0 E112
          have hb := below_step0 hb E112 hb.size
          have q112_48 : Sl a112 48 lv := (hdp112 4 _ 48 (by kernel_rfl) rfl rfl).2 rfl
          have q112_58 : Sl a112 58 (Value.slice (some ⟨b107, 0, none⟩) 1 1) := (Option.some.inj ((hdp112 14 _ 58 (by kernel_rfl) rfl rfl).1 rfl)).symm
          have hP118 := hO40
          refine op_append slt69 (ev_base hN112 rfl q112_48) hP118 (ev_base hN112 rfl q112_58) (Src.ofRd Try.underlying69 (by decide) (RdC.ofBx (sz := 4) (n := 1) hB109 rfl (by decide)) (by simp only [List.all_cons, List.all_nil, Bool.true_and, Bool.and_true, hO80.one, hO96.one]; try rfl)) (by unfold maxLen; omega) (by omega) hb.size ?_
          intro v113 w114 hO116 E115 hm117
          have dj119 : Dj F0S (Bl v113) := Dj.step hm117 (fun k hk => (hS.lt k hk).2) dj67.symm
          have z_w114 := E115.size
          have hr := hr.keepO hP118 E115 (by omega)
          have hlab : ∀ x9 ∈ (L.map Prod.fst), RdC w114 0 w.heap.size 1 x9.1 x9.2.length (x9.2.map u16v) := fun x9 hx9 => (hlab x9 hx9).keepO hP118 E115 (by omega)
          have hown : ∀ x9 ∈ (L.map Prod.snd), RdC w114 0 w.heap.size 1 x9.1 x9.2.length (x9.2.map u16v) := fun x9 hx9 => (hown x9 hx9).keepO hP118 E115 (by omega)
          have hB24 := hB24.keepO hP118 E115 (by decide)
          have hxd := hxd.keepO hP118 E115 (by decide)
          have hS := hS.keepG (Gr.of E115) dj67.symm
          have hla := hla.keepO hP118 E115 (by omega)
          have how := how.keepO hP118 E115 (by omega)
          have hB53 := hB53.keepO hP118 E115 (by decide)
          have hO80 := hO80.keepT hP118 E115 (by decide)
          have hO96 := hO96.keepT hP118 E115 (by decide)
          have hB109 := hB109.keep E115 (fun hh => ne_b107_lv hh.symm)
          have hb := below_stepO hb hP118 E115 hb.size (by omega)
          have hO116 : Own w114 w.heap.size 75 4 v113 (i + 1) ((C.flatMap cellsD ++ [v77, v93, (Value.slice none 0 0), (Value.bool false)])) := by simpa [u8v, u16v, sv] using hO116
          have ne_b107_v113 : v113.ownBlock ≠ some b107 := ne_step (w1 := w112) ⟨E115, hm117⟩ (by omega) ne_b107_lv
          refine kt_end rfl ⟨hxd, hB53⟩ ?_
          intro w120 E120 a120 hN120 hd120 hbs120 hph120
          have hd120 := hd120.trans ((by simp only [putsL_defers] : _ = _).trans hd39)
          have z_w120 := E120.size
          have hr := hr.keep0 E120
          have hlab : ∀ x9 ∈ (L.map Prod.fst), RdC w120 0 w.heap.size 1 x9.1 x9.2.length (x9.2.map u16v) := fun x9 hx9 => (hlab x9 hx9).keep0 E120
          have hown : ∀ x9 ∈ (L.map Prod.snd), RdC w120 0 w.heap.size 1 x9.1 x9.2.length (x9.2.map u16v) := fun x9 hx9 => (hown x9 hx9).keep0 E120
          have hB24 := hB24.keep0 E120
          have hxd := hxd.keep0 E120
          have hS := hS.keepG (Gr.of0 E120 NoB) (fun _ _ h => h)
          have hla := hla.keep0 E120
          have how := how.keep0 E120
          have hB53 := hB53.keep0 E120
          have hO80 := hO80.keep0 E120
          have hO96 := hO96.keep0 E120
          have hB109 := hB109.keep0 E120
          have hO116 := hO116.keep0 E120
          have hb := below_step0 hb E120 hb.size
          have s120_1 := (hbs120 1 rfl).trans (sl_base hN39 rfl s39_1)
          have s120_4 := (hbs120 4 rfl).trans (sl_base hN39 rfl s39_4)
          have s120_5 := (hbs120 5 rfl).trans (sl_base hN39 rfl s39_5)
          have s120_44 : Sl a120 44 (ptr b34 0) := (hph120 0 _ 44 rfl rfl).2 rfl
          have s120_59 : Sl a120 59 v113 := (Option.some.inj ((hph120 15 _ 59 rfl rfl).1 rfl)).symm
          refine split_end ?_
          refine from_seq (tl := [_, _, _]) (by decide) (by kernel_rfl) rfl ?_
          refine op_nil (ev_base hN120 rfl s120_44) ?_
          refine op_field fld72_1 (ev_hit hN120 rfl) ?_
          have hxd_old := hxd
          refine op_store (vs := [v113]) (cs' := [(ptr m30 0), v113, (Value.slice none 0 0)]) size69 (ev_hit hN120 rfl) (ev_base hN120 rfl s120_59) hO116.cl rfl (by simp only [List.all_cons, List.all_nil, Bool.true_and, Bool.and_true, hO116.one]; try rfl) hxd (Nat.le_of_ble_eq_true rfl) rfl ?_
          intro w123 hxd E124
          have z_w123 := E124.size
          have hr := hr.keep E124 (fun k hk => .inr (by simp at hk; omega))
          have hlab : ∀ x9 ∈ (L.map Prod.fst), RdC w123 0 w.heap.size 1 x9.1 x9.2.length (x9.2.map u16v) := fun x9 hx9 => (hlab x9 hx9).keep E124 (fun k hk => .inr (by simp at hk; omega))
          have hown : ∀ x9 ∈ (L.map Prod.snd), RdC w123 0 w.heap.size 1 x9.1 x9.2.length (x9.2.map u16v) := fun x9 hx9 => (hown x9 hx9).keep E124 (fun k hk => .inr (by simp at hk; omega))
          have hB24 := hB24.keep E124 (by simp; omega)
          have hS := hS.keepG (Gr.of E124) (Dj.one dj66)
          have hla := hla.keep E124 (fun k hk => .inr (by simp at hk; omega))
          have how := how.keep E124 (fun k hk => .inr (by simp at hk; omega))
          have hB53 := hB53.keep E124 (by simp; omega)
          have hO80 := hO80.keepX hxd_old E124 (by decide)
          have hO96 := hO96.keepX hxd_old E124 (by decide)
          have hB109 := hB109.keep E124 (by simp; omega)
          have hO116 := hO116.keepX hxd_old E124 (by decide)
          have hb := below_step1 hb E124 hb.size (by omega)
          refine reg_nil ?_
          refine hK45 _ _ ?_
          exact hJ43 _ _ _ hN120 hd120 ⟨v113, (C ++ [⟨v77, v93, Value.slice none 0 0⟩]), (fun x => F0S x ∨ Bl v77 x ∨ Bl v93 x ∨ Bl (Value.slice none 0 0) x), (sl_base hN120 rfl s120_1), (sl_base hN120 rfl s120_4), (sl_base hN120 rfl s120_5), (by simp; omega), (may_snoc hmay c36 c41), hb, (by omega), hr, hlab, hown, hB24, (hO116.cast (by omega) (by simp [List.flatMap_append, cellsD])), hxd, (by rw [ks_step (by omega)]; exact hS.snoc (hO80.cast (Nat.zero_add _) rfl) (hO96.cast (Nat.zero_add _) rfl) (Own.nil _ _ _ _))⟩
         refine one_mem ?_
         intro w125 E125 _ a125 hN125 hbs125 hdp125 o_ ho_; obtain rfl := Option.some.inj ho_
         have z_w125 := E125.size
         have hr := hr.keep0 E125
         have hlab : ∀ x9 ∈ (L.map Prod.fst), RdC w125 0 w.heap.size 1 x9.1 x9.2.length (x9.2.map u16v) := fun x9 hx9 => (hlab x9 hx9).keep0 E125
         have hown : ∀ x9 ∈ (L.map Prod.snd), RdC w125 0 w.heap.size 1 x9.1 x9.2.length (x9.2.map u16v) := fun x9 hx9 => (hown x9 hx9).keep0 E125
         have hB24 := hB24.keep0 E125
         have hxd := hxd.keep0 E125
         have hS := hS.keepG (Gr.of0 E125 NoB) (fun _ _ h => h)
         have hO40 := hO40.keep0 E125
         have hla := hla.keep0 E125
         have how := how.keep0 E125
         have hB53 := hB53.keep0 E125
         have hB73 := hB73.keep0 E125
         have hb := below_step0 hb E125 hb.size
         refine op_bslice (e := 46) (pv := []) (cs := []) trivial (by kernel_rfl) ?_
         intro w126 b127 lo_b127 hi_b127 hB129 E128
         have dj130 : ¬ F0S b127 := fun hf => by have := (hS.lt _ hf).2; omega
         have z_w126 := E128.size
         have hr := hr.keep0 E128
         have hlab : ∀ x9 ∈ (L.map Prod.fst), RdC w126 0 w.heap.size 1 x9.1 x9.2.length (x9.2.map u16v) := fun x9 hx9 => (hlab x9 hx9).keep0 E128
         have hown : ∀ x9 ∈ (L.map Prod.snd), RdC w126 0 w.heap.size 1 x9.1 x9.2.length (x9.2.map u16v) := fun x9 hx9 => (hown x9 hx9).keep0 E128
         have hB24 := hB24.keep0 E128
         have hxd := hxd.keep0 E128
         have hS := hS.keepG (Gr.of0 E128 NoB) (fun _ _ h => h)
         have hO40 := hO40.keep0 E128
         have hla := hla.keep0 E128
         have how := how.keep0 E128
         have hB53 := hB53.keep0 E128
         have hB73 := hB73.keep0 E128
         have hb := below_step0 hb E128 hb.size
         refine kt_end rfl ⟨hxd, hB53⟩ ?_
         refine kt_step (rs := [8]) (by kernel_rfl) ?_
         refine one_mem ?_
         intro w132 E132 _ a132 hN132 hbs132 hdp132 o_ ho_; obtain rfl := Option.some.inj ho_
         have z_w132 := E132.size
         have hr := hr.keep0 E132
         have hlab : ∀ x9 ∈ (L.map Prod.fst), RdC w132 0 w.heap.size 1 x9.1 x9.2.length (x9.2.map u16v) := fun x9 hx9 => (hlab x9 hx9).keep0 E132
         have hown : ∀ x9 ∈ (L.map Prod.snd), RdC w132 0 w.heap.size 1 x9.1 x9.2.length (x9.2.map u16v) := fun x9 hx9 => (hown x9 hx9).keep0 E132
         have hB24 := hB24.keep0 E132
         have hxd := hxd.keep0 E132
         have hS := hS.keepG (Gr.of0 E132 NoB) (fun _ _ h => h)
         have hO40 := hO40.keep0 E132
         have hla := hla.keep0 E132
         have how := how.keep0 E132
         have hB53 := hB53.keep0 E132
         have hB73 := hB73.keep0 E132
         have hB129 := hB129.keep0 E132
         have hb := below_step0 hb E132 hb.size
         have q132_49 : Sl a132 49 (Value.slice (some ⟨b71, 0, none⟩) 0 0) := (Option.some.inj ((hdp132 5 _ 49 (by kernel_rfl) rfl rfl).1 rfl)).symm
         have q132_51 : Sl a132 51 ((L.map Prod.fst).getD i D2).1 := (hdp132 7 _ 51 (by kernel_rfl) rfl rfl).2 rfl
         have hP138 := (Own.ofBx (base := w.heap.size) (sz := 1) (n := 0) hB73 rfl (by decide) (by omega))
         refine op_append slt54 (ev_base hN132 rfl q132_49) hP138 (ev_base hN132 rfl q132_51) (Src.ofRd Try.underlying54 (by decide) hla (one_u16 _)) (by unfold maxLen; omega) (by omega) hb.size ?_
         intro v133 w134 hO136 E135 hm137
         have dj139 : Dj F0S (Bl v133) := Dj.step hm137 (fun k hk => (hS.lt k hk).2) (Dj.one dj74)
         have z_w134 := E135.size
         have hr := hr.keepO hP138 E135 (by omega)
         have hlab : ∀ x9 ∈ (L.map Prod.fst), RdC w134 0 w.heap.size 1 x9.1 x9.2.length (x9.2.map u16v) := fun x9 hx9 => (hlab x9 hx9).keepO hP138 E135 (by omega)
         have hown : ∀ x9 ∈ (L.map Prod.snd), RdC w134 0 w.heap.size 1 x9.1 x9.2.length (x9.2.map u16v) := fun x9 hx9 => (hown x9 hx9).keepO hP138 E135 (by omega)
         have hB24 := hB24.keep E135 (by simp [Value.ownBlock]; try omega)
         have hxd := hxd.keep E135 (by simp [Value.ownBlock]; try omega)
         have hS := hS.keepG (Gr.of E135) (Dj.one dj74)
         have hO40 := hO40.keepT hP138 E135 (by decide)
         have hla := hla.keepO hP138 E135 (by omega)
         have how := how.keepO hP138 E135 (by omega)
         have hB53 := hB53.keep E135 (by simp [Value.ownBlock]; try omega)
         have hB129 := hB129.keep E135 (by simp [Value.ownBlock]; try omega)
         have hb := below_stepO hb hP138 E135 hb.size (by omega)
         have hO136 : Own w134 w.heap.size 46 1 v133 (0 + ((L.map Prod.fst).getD i D2).2.length) ((((L.map Prod.fst).getD i D2).2).map u16v) := by simpa [u8v, u16v, sv] using hO136
         have ne_b127_v133 : v133.ownBlock ≠ some b127 := ne_step (v := (Value.slice (some ⟨b71, 0, none⟩) 0 0)) (w1 := w132) ⟨E135, hm137⟩ (by omega) (by simp [Value.ownBlock]; try omega)
         refine kt_end rfl ⟨hxd, hB53⟩ ?_
         refine kt_step (rs := [12]) (by kernel_rfl) ?_
         refine one_mem ?_
         intro w141 E141 _ a141 hN141 hbs141 hdp141 o_ ho_; obtain rfl := Option.some.inj ho_
         have z_w141 := E141.size
         have hr := hr.keep0 E141
         have hlab : ∀ x9 ∈ (L.map Prod.fst), RdC w141 0 w.heap.size 1 x9.1 x9.2.length (x9.2.map u16v) := fun x9 hx9 => (hlab x9 hx9).keep0 E141
         have hown : ∀ x9 ∈ (L.map Prod.snd), RdC w141 0 w.heap.size 1 x9.1 x9.2.length (x9.2.map u16v) := fun x9 hx9 => (hown x9 hx9).keep0 E141
         have hB24 := hB24.keep0 E141
         have hxd := hxd.keep0 E141
         have hS := hS.keepG (Gr.of0 E141 NoB) (fun _ _ h => h)
         have hO40 := hO40.keep0 E141
         have hla := hla.keep0 E141
         have how := how.keep0 E141
         have hB53 := hB53.keep0 E141
         have hB129 := hB129.keep0 E141
         have hO136 := hO136.keep0 E141
         have hb := below_step0 hb E141 hb.size
         have q141_53 : Sl a141 53 (Value.slice (some ⟨b127, 0, none⟩) 0 0) := (Option.some.inj ((hdp141 9 _ 53 (by kernel_rfl) rfl rfl).1 rfl)).symm
         have q141_55 : Sl a141 55 ((L.map Prod.snd).getD i D2).1 := (hdp141 11 _ 55 (by kernel_rfl) rfl rfl).2 rfl
         have hP147 := (Own.ofBx (base := w.heap.size) (sz := 1) (n := 0) hB129 rfl (by decide) (by omega))
         refine op_append slt54 (ev_base hN141 rfl q141_53) hP147 (ev_base hN141 rfl q141_55) (Src.ofRd Try.underlying54 (by decide) how (one_u16 _)) (by unfold maxLen; omega) (by omega) hb.size ?_
         intro v142 w143 hO145 E144 hm146
         have dj148 : DJ v133 (Value.slice (some ⟨b127, 0, none⟩) 0 0) := fun k hk hg => by simp [Value.ownBlock] at hg; subst hg; exact ne_b127_v133 hk
         have dj149 : DJ v133 v142 := DJ.step hm146 (fun k hk => (hO136.lt k hk).2) dj148
         have dj150 : Dj F0S (Bl v142) := Dj.step hm146 (fun k hk => (hS.lt k hk).2) (Dj.one dj130)
         have z_w143 := E144.size
         have hr := hr.keepO hP147 E144 (by omega)
         have hlab : ∀ x9 ∈ (L.map Prod.fst), RdC w143 0 w.heap.size 1 x9.1 x9.2.length (x9.2.map u16v) := fun x9 hx9 => (hlab x9 hx9).keepO hP147 E144 (by omega)
         have hown : ∀ x9 ∈ (L.map Prod.snd), RdC w143 0 w.heap.size 1 x9.1 x9.2.length (x9.2.map u16v) := fun x9 hx9 => (hown x9 hx9).keepO hP147 E144 (by omega)
         have hB24 := hB24.keep E144 (by simp [Value.ownBlock]; try omega)
         have hxd := hxd.keep E144 (by simp [Value.ownBlock]; try omega)
         have hS := hS.keepG (Gr.of E144) (Dj.one dj130)
         have hO40 := hO40.keepT hP147 E144 (by decide)
         have hla := hla.keepO hP147 E144 (by omega)
         have how := how.keepO hP147 E144 (by omega)
         have hB53 := hB53.keep E144 (by simp [Value.ownBlock]; try omega)
         have hO136 := hO136.keepD E144 dj148
         have hb := below_stepO hb hP147 E144 hb.size (by omega)
         have hO145 : Own w143 w.heap.size 46 1 v142 (0 + ((L.map Prod.snd).getD i D2).2.length) ((((L.map Prod.snd).getD i D2).2).map u16v) := by simpa [u8v, u16v, sv] using hO145
         refine kt_end rfl ⟨hxd, hB53⟩ ?_
         refine kt_step (rs := [13]) (by kernel_rfl) ?_
         refine one_mem ?_
         intro w152 E152 _ a152 hN152 hbs152 hdp152 o_ ho_; obtain rfl := Option.some.inj ho_
         have z_w152 := E152.size
         have hr := hr.keep0 E152
         have hlab : ∀ x9 ∈ (L.map Prod.fst), RdC w152 0 w.heap.size 1 x9.1 x9.2.length (x9.2.map u16v) := fun x9 hx9 => (hlab x9 hx9).keep0 E152
         have hown : ∀ x9 ∈ (L.map Prod.snd), RdC w152 0 w.heap.size 1 x9.1 x9.2.length (x9.2.map u16v) := fun x9 hx9 => (hown x9 hx9).keep0 E152
         have hB24 := hB24.keep0 E152
         have hxd := hxd.keep0 E152
         have hS := hS.keepG (Gr.of0 E152 NoB) (fun _ _ h => h)
         have hO40 := hO40.keep0 E152
         have hla := hla.keep0 E152
         have how := how.keep0 E152
         have hB53 := hB53.keep0 E152
         have hO136 := hO136.keep0 E152
         have hO145 := hO145.keep0 E152
         have hb := below_step0 hb E152 hb.size
         have q152_52 : Sl a152 52 v133 := (Option.some.inj ((hdp152 8 _ 52 (by kernel_rfl) rfl rfl).1 rfl)).symm
         have q152_56 : Sl a152 56 v142 := (Option.some.inj ((hdp152 12 _ 56 (by kernel_rfl) rfl rfl).1 rfl)).symm
         refine op_build (pv := [(0, v133), (1, v142)]) (v := (Value.agg #[v133, v142, (Value.slice none 0 0), (Value.bool false)])) ⟨rfl, (ev_base hN152 rfl q152_52), ⟨rfl, (ev_base hN152 rfl q152_56), trivial⟩⟩ (by obtain ⟨_, _, _, rfl⟩ := hO136.sl; obtain ⟨_, _, _, rfl⟩ := hO145.sl; kernel_rfl) ?_
         refine kt_end rfl ⟨hxd, hB53⟩ ?_
         refine kt_step (rs := [14]) (by kernel_rfl) ?_
         refine one_mem ?_
         intro w154 E154 _ a154 hN154 hbs154 hdp154 o_ ho_; obtain rfl := Option.some.inj ho_
         have z_w154 := E154.size
         have hr := hr.keep0 E154
         have hlab : ∀ x9 ∈ (L.map Prod.fst), RdC w154 0 w.heap.size 1 x9.1 x9.2.length (x9.2.map u16v) := fun x9 hx9 => (hlab x9 hx9).keep0 E154
         have hown : ∀ x9 ∈ (L.map Prod.snd), RdC w154 0 w.heap.size 1 x9.1 x9.2.length (x9.2.map u16v) := fun x9 hx9 => (hown x9 hx9).keep0 E154
         have hB24 := hB24.keep0 E154
         have hxd := hxd.keep0 E154
         have hS := hS.keepG (Gr.of0 E154 NoB) (fun _ _ h => h)
         have hO40 := hO40.keep0 E154
         have hla := hla.keep0 E154
         have how := how.keep0 E154
         have hB53 := hB53.keep0 E154
         have hO136 := hO136.keep0 E154
         have hO145 := hO145.keep0 E154
         have hb := below_step0 hb E154 hb.size
         have q154_57 : Sl a154 57 (Value.agg #[v133, v142, (Value.slice none 0 0), (Value.bool false)]) := (Option.some.inj ((hdp154 13 _ 57 (by kernel_rfl) rfl rfl).1 rfl)).symm
         refine op_bslice (e := 75) (pv := [(0, (Value.agg #[v133, v142, (Value.slice none 0 0), (Value.bool false)]))]) (cs := [v133, v142, (Value.slice none 0 0), (Value.bool false)]) ⟨rfl, (ev_base hN154 rfl q154_57), trivial⟩ (by obtain ⟨_, _, _, rfl⟩ := hO136.sl; obtain ⟨_, _, _, rfl⟩ := hO145.sl; kernel_rfl) ?_
         intro w155 b156 lo_b156 hi_b156 hB158 E157
         have dj159 : ¬ F0S b156 := fun hf => by have := (hS.lt _ hf).2; omega
         have ne_b156_lv : lv.ownBlock ≠ some b156 := fun hh => by have := (hO40.lt _ hh).2; omega
         have z_w155 := E157.size
         have hr := hr.keep0 E157
         have hlab : ∀ x9 ∈ (L.map Prod.fst), RdC w155 0 w.heap.size 1 x9.1 x9.2.length (x9.2.map u16v) := fun x9 hx9 => (hlab x9 hx9).keep0 E157
         have hown : ∀ x9 ∈ (L.map Prod.snd), RdC w155 0 w.heap.size 1 x9.1 x9.2.length (x9.2.map u16v) := fun x9 hx9 => (hown x9 hx9).keep0 E157
         have hB24 := hB24.keep0 E157
         have hxd := hxd.keep0 E157
         have hS := hS.keepG (Gr.of0 E157 NoB) (fun _ _ h => h)
         have hO40 := hO40.keep0 E157
         have hla := hla.keep0 E157
         have how := how.keep0 E157
         have hB53 := hB53.keep0 E157
         have hO136 := hO136.keep0 E157
         have hO145 := hO145.keep0 E157
         have hb := below_step0 hb E157 hb.size
         refine kt_end rfl ⟨hxd, hB53⟩ ?_
         refine kt_step (rs := [15]) (by kernel_rfl) ?_
         refine one_mem ?_
         intro w161 E161 _ a161 hN161 hbs161 hdp161 o_ ho_; obtain rfl := Option.some.inj ho_
         have z_w161 := E161.size
         have hr := hr.keep0 E161
         have hlab : ∀ x9 ∈ (L.map Prod.fst), RdC w161 0 w.heap.size 1 x9.1 x9.2.length (x9.2.map u16v) := fun x9 hx9 => (hlab x9 hx9).keep0 E161
         have hown : ∀ x9 ∈ (L.map Prod.snd), RdC w161 0 w.heap.size 1 x9.1 x9.2.length (x9.2.map u16v) := fun x9 hx9 => (hown x9 hx9).keep0 E161
         have hB24 := hB24.keep0 E161
         have hxd := hxd.keep0 E161
         have hS := hS.keepG (Gr.of0 E161 NoB) (fun _ _ h => h)
         have hO40 := hO40.keep0 E161
         have hla := hla.keep0 E161
         have how := how.keep0 E161
         have hB53 := hB53.keep0 E161
         have hO136 := hO136.keep0 E161
         have hO145 := hO145.keep0 E161
         have hB158 := hB158.keep0 E161
         have hb := below_step0 hb E161 hb.size
         have q161_48 : Sl a161 48 lv := (hdp161 4 _ 48 (by kernel_rfl) rfl rfl).2 rfl
         have q161_58 : Sl a161 58 (Value.slice (some ⟨b156, 0, none⟩) 1 1) := (Option.some.inj ((hdp161 14 _ 58 (by kernel_rfl) rfl rfl).1 rfl)).symm
         have hP167 := hO40
         refine op_append slt69 (ev_base hN161 rfl q161_48) hP167 (ev_base hN161 rfl q161_58) (Src.ofRd Try.underlying69 (by decide) (RdC.ofBx (sz := 4) (n := 1) hB158 rfl (by decide)) (by simp only [List.all_cons, List.all_nil, Bool.true_and, Bool.and_true, hO136.one, hO145.one]; try rfl)) (by unfold maxLen; omega) (by omega) hb.size ?_
         intro v162 w163 hO165 E164 hm166
         have dj168 : Dj F0S (Bl v162) := Dj.step hm166 (fun k hk => (hS.lt k hk).2) dj67.symm
         have z_w163 := E164.size
         have hr := hr.keepO hP167 E164 (by omega)
         have hlab : ∀ x9 ∈ (L.map Prod.fst), RdC w163 0 w.heap.size 1 x9.1 x9.2.length (x9.2.map u16v) := fun x9 hx9 => (hlab x9 hx9).keepO hP167 E164 (by omega)
         have hown : ∀ x9 ∈ (L.map Prod.snd), RdC w163 0 w.heap.size 1 x9.1 x9.2.length (x9.2.map u16v) := fun x9 hx9 => (hown x9 hx9).keepO hP167 E164 (by omega)
         have hB24 := hB24.keepO hP167 E164 (by decide)
         have hxd := hxd.keepO hP167 E164 (by decide)
         have hS := hS.keepG (Gr.of E164) dj67.symm
         have hla := hla.keepO hP167 E164 (by omega)
         have how := how.keepO hP167 E164 (by omega)
         have hB53 := hB53.keepO hP167 E164 (by decide)
         have hO136 := hO136.keepT hP167 E164 (by decide)
         have hO145 := hO145.keepT hP167 E164 (by decide)
         have hB158 := hB158.keep E164 (fun hh => ne_b156_lv hh.symm)
         have hb := below_stepO hb hP167 E164 hb.size (by omega)
         have hO165 : Own w163 w.heap.size 75 4 v162 (i + 1) ((C.flatMap cellsD ++ [v133, v142, (Value.slice none 0 0), (Value.bool false)])) := by simpa [u8v, u16v, sv] using hO165
         have ne_b156_v162 : v162.ownBlock ≠ some b156 := ne_step (w1 := w161) ⟨E164, hm166⟩ (by omega) ne_b156_lv
         refine kt_end rfl ⟨hxd, hB53⟩ ?_
         intro w169 E169 a169 hN169 hd169 hbs169 hph169
         have hd169 := hd169.trans ((by simp only [putsL_defers] : _ = _).trans hd39)
         have z_w169 := E169.size
         have hr := hr.keep0 E169
         have hlab : ∀ x9 ∈ (L.map Prod.fst), RdC w169 0 w.heap.size 1 x9.1 x9.2.length (x9.2.map u16v) := fun x9 hx9 => (hlab x9 hx9).keep0 E169
         have hown : ∀ x9 ∈ (L.map Prod.snd), RdC w169 0 w.heap.size 1 x9.1 x9.2.length (x9.2.map u16v) := fun x9 hx9 => (hown x9 hx9).keep0 E169
         have hB24 := hB24.keep0 E169
         have hxd := hxd.keep0 E169
         have hS := hS.keepG (Gr.of0 E169 NoB) (fun _ _ h => h)
         have hla := hla.keep0 E169
         have how := how.keep0 E169
         have hB53 := hB53.keep0 E169
         have hO136 := hO136.keep0 E169
         have hO145 := hO145.keep0 E169
         have hB158 := hB158.keep0 E169
         have hO165 := hO165.keep0 E169
         have hb := below_step0 hb E169 hb.size
         have s169_1 := (hbs169 1 rfl).trans (sl_base hN39 rfl s39_1)
         have s169_4 := (hbs169 4 rfl).trans (sl_base hN39 rfl s39_4)
         have s169_5 := (hbs169 5 rfl).trans (sl_base hN39 rfl s39_5)
         have s169_44 : Sl a169 44 (ptr b34 0) := (hph169 0 _ 44 rfl rfl).2 rfl
         have s169_59 : Sl a169 59 v162 := (Option.some.inj ((hph169 15 _ 59 rfl rfl).1 rfl)).symm
         refine split_end ?_
         refine from_seq (tl := [_, _, _]) (by decide) (by kernel_rfl) rfl ?_
         refine op_nil (ev_base hN169 rfl s169_44) ?_
         refine op_field fld72_1 (ev_hit hN169 rfl) ?_
         have hxd_old := hxd
         refine op_store (vs := [v162]) (cs' := [(ptr m30 0), v162, (Value.slice none 0 0)]) size69 (ev_hit hN169 rfl) (ev_base hN169 rfl s169_59) hO165.cl rfl (by simp only [List.all_cons, List.all_nil, Bool.true_and, Bool.and_true, hO165.one]; try rfl) hxd (Nat.le_of_ble_eq_true rfl) rfl ?_
         intro w172 hxd E173
         have z_w172 := E173.size
         have hr := hr.keep E173 (fun k hk => .inr (by simp at hk; omega))
         have hlab : ∀ x9 ∈ (L.map Prod.fst), RdC w172 0 w.heap.size 1 x9.1 x9.2.length (x9.2.map u16v) := fun x9 hx9 => (hlab x9 hx9).keep E173 (fun k hk => .inr (by simp at hk; omega))
         have hown : ∀ x9 ∈ (L.map Prod.snd), RdC w172 0 w.heap.size 1 x9.1 x9.2.length (x9.2.map u16v) := fun x9 hx9 => (hown x9 hx9).keep E173 (fun k hk => .inr (by simp at hk; omega))
         have hB24 := hB24.keep E173 (by simp; omega)
         have hS := hS.keepG (Gr.of E173) (Dj.one dj66)
         have hla := hla.keep E173 (fun k hk => .inr (by simp at hk; omega))
         have how := how.keep E173 (fun k hk => .inr (by simp at hk; omega))
         have hB53 := hB53.keep E173 (by simp; omega)
         have hO136 := hO136.keepX hxd_old E173 (by decide)
         have hO145 := hO145.keepX hxd_old E173 (by decide)
         have hB158 := hB158.keep E173 (by simp; omega)
         have hO165 := hO165.keepX hxd_old E173 (by decide)
         have hb := below_step1 hb E173 hb.size (by omega)
         refine reg_nil ?_
         refine hK45 _ _ ?_
         exact hJ43 _ _ _ hN169 hd169 ⟨v162, (C ++ [⟨v133, v142, Value.slice none 0 0⟩]), (fun x => F0S x ∨ Bl v133 x ∨ Bl v142 x ∨ Bl (Value.slice none 0 0) x), (sl_base hN169 rfl s169_1), (sl_base hN169 rfl s169_4), (sl_base hN169 rfl s169_5), (by simp; omega), (may_snoc hmay c36 c41), hb, (by omega), hr, hlab, hown, hB24, (hO165.cast (by omega) (by simp [List.flatMap_append, cellsD])), hxd, (by rw [ks_step (by omega)]; exact hS.snoc (hO136.cast (Nat.zero_add _) rfl) (hO145.cast (Nat.zero_add _) rfl) (Own.nil _ _ _ _))⟩
        refine one_mem ?_
        intro w174 E174 _ a174 hN174 hbs174 hdp174 o_ ho_; obtain rfl := Option.some.inj ho_
        have z_w174 := E174.size
        have hr := hr.keep0 E174
        have hlab : ∀ x9 ∈ (L.map Prod.fst), RdC w174 0 w.heap.size 1 x9.1 x9.2.length (x9.2.map u16v) := fun x9 hx9 => (hlab x9 hx9).keep0 E174
        have hown : ∀ x9 ∈ (L.map Prod.snd), RdC w174 0 w.heap.size 1 x9.1 x9.2.length (x9.2.map u16v) := fun x9 hx9 => (hown x9 hx9).keep0 E174
        have hB24 := hB24.keep0 E174
        have hxd := hxd.keep0 E174
        have hS := hS.keepG (Gr.of0 E174 NoB) (fun _ _ h => h)
        have hO40 := hO40.keep0 E174
        have hla := hla.keep0 E174
        have how := how.keep0 E174
        have hB53 := hB53.keep0 E174
        have hb := below_step0 hb E174 hb.size
        refine op_bslice (e := 46) (pv := []) (cs := []) trivial (by kernel_rfl) ?_
        intro w175 b176 lo_b176 hi_b176 hB178 E177
        have dj179 : ¬ F0S b176 := fun hf => by have := (hS.lt _ hf).2; omega
        have z_w175 := E177.size
        have hr := hr.keep0 E177
        have hlab : ∀ x9 ∈ (L.map Prod.fst), RdC w175 0 w.heap.size 1 x9.1 x9.2.length (x9.2.map u16v) := fun x9 hx9 => (hlab x9 hx9).keep0 E177
        have hown : ∀ x9 ∈ (L.map Prod.snd), RdC w175 0 w.heap.size 1 x9.1 x9.2.length (x9.2.map u16v) := fun x9 hx9 => (hown x9 hx9).keep0 E177
        have hB24 := hB24.keep0 E177
        have hxd := hxd.keep0 E177
        have hS := hS.keepG (Gr.of0 E177 NoB) (fun _ _ h => h)
        have hO40 := hO40.keep0 E177
        have hla := hla.keep0 E177
        have how := how.keep0 E177
        have hB53 := hB53.keep0 E177
        have hb := below_step0 hb E177 hb.size
        refine kt_end rfl ⟨hxd, hB53⟩ ?_
        refine kt_step (rs := [5]) (by kernel_rfl) ?_
        refine one_mem ?_
        intro w181 E181 _ a181 hN181 hbs181 hdp181 o_ ho_; obtain rfl := Option.some.inj ho_
        have z_w181 := E181.size
        have hr := hr.keep0 E181
        have hlab : ∀ x9 ∈ (L.map Prod.fst), RdC w181 0 w.heap.size 1 x9.1 x9.2.length (x9.2.map u16v) := fun x9 hx9 => (hlab x9 hx9).keep0 E181
        have hown : ∀ x9 ∈ (L.map Prod.snd), RdC w181 0 w.heap.size 1 x9.1 x9.2.length (x9.2.map u16v) := fun x9 hx9 => (hown x9 hx9).keep0 E181
        have hB24 := hB24.keep0 E181
        have hxd := hxd.keep0 E181
        have hS := hS.keepG (Gr.of0 E181 NoB) (fun _ _ h => h)
        have hO40 := hO40.keep0 E181
        have hla := hla.keep0 E181
        have how := how.keep0 E181
        have hB53 := hB53.keep0 E181
        have hB178 := hB178.keep0 E181
        have hb := below_step0 hb E181 hb.size
        refine op_bslice (e := 46) (pv := []) (cs := []) trivial (by kernel_rfl) ?_
        intro w182 b183 lo_b183 hi_b183 hB185 E184
        have dj186 : ¬ F0S b183 := fun hf => by have := (hS.lt _ hf).2; omega
        have z_w182 := E184.size
        have hr := hr.keep0 E184
        have hlab : ∀ x9 ∈ (L.map Prod.fst), RdC w182 0 w.heap.size 1 x9.1 x9.2.length (x9.2.map u16v) := fun x9 hx9 => (hlab x9 hx9).keep0 E184
        have hown : ∀ x9 ∈ (L.map Prod.snd), RdC w182 0 w.heap.size 1 x9.1 x9.2.length (x9.2.map u16v) := fun x9 hx9 => (hown x9 hx9).keep0 E184
        have hB24 := hB24.keep0 E184
        have hxd := hxd.keep0 E184
        have hS := hS.keepG (Gr.of0 E184 NoB) (fun _ _ h => h)
        have hO40 := hO40.keep0 E184
        have hla := hla.keep0 E184
        have how := how.keep0 E184
        have hB53 := hB53.keep0 E184
        have hB178 := hB178.keep0 E184
        have hb := below_step0 hb E184 hb.size
        refine kt_end rfl ⟨hxd, hB53⟩ ?_
        refine kt_step (rs := [8]) (by kernel_rfl) ?_
        refine one_mem ?_
        intro w188 E188 _ a188 hN188 hbs188 hdp188 o_ ho_; obtain rfl := Option.some.inj ho_
        have z_w188 := E188.size
        have hr := hr.keep0 E188
        have hlab : ∀ x9 ∈ (L.map Prod.fst), RdC w188 0 w.heap.size 1 x9.1 x9.2.length (x9.2.map u16v) := fun x9 hx9 => (hlab x9 hx9).keep0 E188
        have hown : ∀ x9 ∈ (L.map Prod.snd), RdC w188 0 w.heap.size 1 x9.1 x9.2.length (x9.2.map u16v) := fun x9 hx9 => (hown x9 hx9).keep0 E188
        have hB24 := hB24.keep0 E188
        have hxd := hxd.keep0 E188
        have hS := hS.keepG (Gr.of0 E188 NoB) (fun _ _ h => h)
        have hO40 := hO40.keep0 E188
        have hla := hla.keep0 E188
        have how := how.keep0 E188
        have hB53 := hB53.keep0 E188
        have hB178 := hB178.keep0 E188
        have hB185 := hB185.keep0 E188
        have hb := below_step0 hb E188 hb.size
        have q188_49 : Sl a188 49 (Value.slice (some ⟨b183, 0, none⟩) 0 0) := (Option.some.inj ((hdp188 5 _ 49 (by kernel_rfl) rfl rfl).1 rfl)).symm
        have q188_51 : Sl a188 51 ((L.map Prod.fst).getD i D2).1 := (hdp188 7 _ 51 (by kernel_rfl) rfl rfl).2 rfl
        have hP194 := (Own.ofBx (base := w.heap.size) (sz := 1) (n := 0) hB185 rfl (by decide) (by omega))
        refine op_append slt54 (ev_base hN188 rfl q188_49) hP194 (ev_base hN188 rfl q188_51) (Src.ofRd Try.underlying54 (by decide) hla (one_u16 _)) (by unfold maxLen; omega) (by omega) hb.size ?_
        intro v189 w190 hO192 E191 hm193
        have dj195 : Dj F0S (Bl v189) := Dj.step hm193 (fun k hk => (hS.lt k hk).2) (Dj.one dj186)
        have z_w190 := E191.size
        have hr := hr.keepO hP194 E191 (by omega)
        have hlab : ∀ x9 ∈ (L.map Prod.fst), RdC w190 0 w.heap.size 1 x9.1 x9.2.length (x9.2.map u16v) := fun x9 hx9 => (hlab x9 hx9).keepO hP194 E191 (by omega)
        have hown : ∀ x9 ∈ (L.map Prod.snd), RdC w190 0 w.heap.size 1 x9.1 x9.2.length (x9.2.map u16v) := fun x9 hx9 => (hown x9 hx9).keepO hP194 E191 (by omega)
        have hB24 := hB24.keep E191 (by simp [Value.ownBlock]; try omega)
        have hxd := hxd.keep E191 (by simp [Value.ownBlock]; try omega)
        have hS := hS.keepG (Gr.of E191) (Dj.one dj186)
        have hO40 := hO40.keepT hP194 E191 (by decide)
        have hla := hla.keepO hP194 E191 (by omega)
        have how := how.keepO hP194 E191 (by omega)
        have hB53 := hB53.keep E191 (by simp [Value.ownBlock]; try omega)
        have hB178 := hB178.keep E191 (by simp [Value.ownBlock]; try omega)
        have hb := below_stepO hb hP194 E191 hb.size (by omega)
        have hO192 : Own w190 w.heap.size 46 1 v189 (0 + ((L.map Prod.fst).getD i D2).2.length) ((((L.map Prod.fst).getD i D2).2).map u16v) := by simpa [u8v, u16v, sv] using hO192
        have ne_b176_v189 : v189.ownBlock ≠ some b176 := ne_step (v := (Value.slice (some ⟨b183, 0, none⟩) 0 0)) (w1 := w188) ⟨E191, hm193⟩ (by omega) (by simp [Value.ownBlock]; try omega)
        refine kt_end rfl ⟨hxd, hB53⟩ ?_
        refine kt_step (rs := [12]) (by kernel_rfl) ?_
        refine one_mem ?_
        intro w197 E197 _ a197 hN197 hbs197 hdp197 o_ ho_; obtain rfl := Option.some.inj ho_
        have z_w197 := E197.size
        have hr := hr.keep0 E197
        have hlab : ∀ x9 ∈ (L.map Prod.fst), RdC w197 0 w.heap.size 1 x9.1 x9.2.length (x9.2.map u16v) := fun x9 hx9 => (hlab x9 hx9).keep0 E197
        have hown : ∀ x9 ∈ (L.map Prod.snd), RdC w197 0 w.heap.size 1 x9.1 x9.2.length (x9.2.map u16v) := fun x9 hx9 => (hown x9 hx9).keep0 E197
        have hB24 := hB24.keep0 E197
        have hxd := hxd.keep0 E197
        have hS := hS.keepG (Gr.of0 E197 NoB) (fun _ _ h => h)
        have hO40 := hO40.keep0 E197
        have hla := hla.keep0 E197
        have how := how.keep0 E197
        have hB53 := hB53.keep0 E197
        have hB178 := hB178.keep0 E197
        have hO192 := hO192.keep0 E197
        have hb := below_step0 hb E197 hb.size
        have q197_53 : Sl a197 53 (Value.slice (some ⟨b176, 0, none⟩) 0 0) := (Option.some.inj ((hdp197 9 _ 53 (by kernel_rfl) rfl rfl).1 rfl)).symm
        have q197_55 : Sl a197 55 ((L.map Prod.snd).getD i D2).1 := (hdp197 11 _ 55 (by kernel_rfl) rfl rfl).2 rfl
        have hP203 := (Own.ofBx (base := w.heap.size) (sz := 1) (n := 0) hB178 rfl (by decide) (by omega))
        refine op_append slt54 (ev_base hN197 rfl q197_53) hP203 (ev_base hN197 rfl q197_55) (Src.ofRd Try.underlying54 (by decide) how (one_u16 _)) (by unfold maxLen; omega) (by omega) hb.size ?_
        intro v198 w199 hO201 E200 hm202
        have dj204 : DJ v189 (Value.slice (some ⟨b176, 0, none⟩) 0 0) := fun k hk hg => by simp [Value.ownBlock] at hg; subst hg; exact ne_b176_v189 hk
        have dj205 : DJ v189 v198 := DJ.step hm202 (fun k hk => (hO192.lt k hk).2) dj204
        have dj206 : Dj F0S (Bl v198) := Dj.step hm202 (fun k hk => (hS.lt k hk).2) (Dj.one dj179)
        have z_w199 := E200.size
        have hr := hr.keepO hP203 E200 (by omega)
        have hlab : ∀ x9 ∈ (L.map Prod.fst), RdC w199 0 w.heap.size 1 x9.1 x9.2.length (x9.2.map u16v) := fun x9 hx9 => (hlab x9 hx9).keepO hP203 E200 (by omega)
        have hown : ∀ x9 ∈ (L.map Prod.snd), RdC w199 0 w.heap.size 1 x9.1 x9.2.length (x9.2.map u16v) := fun x9 hx9 => (hown x9 hx9).keepO hP203 E200 (by omega)
        have hB24 := hB24.keep E200 (by simp [Value.ownBlock]; try omega)
        have hxd := hxd.keep E200 (by simp [Value.ownBlock]; try omega)
        have hS := hS.keepG (Gr.of E200) (Dj.one dj179)
        have hO40 := hO40.keepT hP203 E200 (by decide)
        have hla := hla.keepO hP203 E200 (by omega)
        have how := how.keepO hP203 E200 (by omega)
        have hB53 := hB53.keep E200 (by simp [Value.ownBlock]; try omega)
        have hO192 := hO192.keepD E200 dj204
        have hb := below_stepO hb hP203 E200 hb.size (by omega)
        have hO201 : Own w199 w.heap.size 46 1 v198 (0 + ((L.map Prod.snd).getD i D2).2.length) ((((L.map Prod.snd).getD i D2).2).map u16v) := by simpa [u8v, u16v, sv] using hO201
        refine kt_end rfl ⟨hxd, hB53⟩ ?_
        refine kt_step (rs := [13]) (by kernel_rfl) ?_
        refine one_mem ?_
        intro w208 E208 _ a208 hN208 hbs208 hdp208 o_ ho_; obtain rfl := Option.some.inj ho_
        have z_w208 := E208.size
        have hr := hr.keep0 E208
        have hlab : ∀ x9 ∈ (L.map Prod.fst), RdC w208 0 w.heap.size 1 x9.1 x9.2.length (x9.2.map u16v) := fun x9 hx9 => (hlab x9 hx9).keep0 E208
        have hown : ∀ x9 ∈ (L.map Prod.snd), RdC w208 0 w.heap.size 1 x9.1 x9.2.length (x9.2.map u16v) := fun x9 hx9 => (hown x9 hx9).keep0 E208
        have hB24 := hB24.keep0 E208
        have hxd := hxd.keep0 E208
        have hS := hS.keepG (Gr.of0 E208 NoB) (fun _ _ h => h)
        have hO40 := hO40.keep0 E208
        have hla := hla.keep0 E208
        have how := how.keep0 E208
        have hB53 := hB53.keep0 E208
        have hO192 := hO192.keep0 E208
        have hO201 := hO201.keep0 E208
        have hb := below_step0 hb E208 hb.size
        have q208_52 : Sl a208 52 v189 := (Option.some.inj ((hdp208 8 _ 52 (by kernel_rfl) rfl rfl).1 rfl)).symm
        have q208_56 : Sl a208 56 v198 := (Option.some.inj ((hdp208 12 _ 56 (by kernel_rfl) rfl rfl).1 rfl)).symm
        refine op_build (pv := [(0, v189), (1, v198)]) (v := (Value.agg #[v189, v198, (Value.slice none 0 0), (Value.bool false)])) ⟨rfl, (ev_base hN208 rfl q208_52), ⟨rfl, (ev_base hN208 rfl q208_56), trivial⟩⟩ (by obtain ⟨_, _, _, rfl⟩ := hO192.sl; obtain ⟨_, _, _, rfl⟩ := hO201.sl; kernel_rfl) ?_
        refine kt_end rfl ⟨hxd, hB53⟩ ?_
        refine kt_step (rs := [14]) (by kernel_rfl) ?_
        refine one_mem ?_
        intro w210 E210 _ a210 hN210 hbs210 hdp210 o_ ho_; obtain rfl := Option.some.inj ho_
        have z_w210 := E210.size
        have hr := hr.keep0 E210
        have hlab : ∀ x9 ∈ (L.map Prod.fst), RdC w210 0 w.heap.size 1 x9.1 x9.2.length (x9.2.map u16v) := fun x9 hx9 => (hlab x9 hx9).keep0 E210
        have hown : ∀ x9 ∈ (L.map Prod.snd), RdC w210 0 w.heap.size 1 x9.1 x9.2.length (x9.2.map u16v) := fun x9 hx9 => (hown x9 hx9).keep0 E210
        have hB24 := hB24.keep0 E210
        have hxd := hxd.keep0 E210
        have hS := hS.keepG (Gr.of0 E210 NoB) (fun _ _ h => h)
        have hO40 := hO40.keep0 E210
        have hla := hla.keep0 E210
        have how := how.keep0 E210
        have hB53 := hB53.keep0 E210
        have hO192 := hO192.keep0 E210
        have hO201 := hO201.keep0 E210
        have hb := below_step0 hb E210 hb.size
        have q210_57 : Sl a210 57 (Value.agg #[v189, v198, (Value.slice none 0 0), (Value.bool false)]) := (Option.some.inj ((hdp210 13 _ 57 (by kernel_rfl) rfl rfl).1 rfl)).symm
        refine op_bslice (e := 75) (pv := [(0, (Value.agg #[v189, v198, (Value.slice none 0 0), (Value.bool false)]))]) (cs := [v189, v198, (Value.slice none 0 0), (Value.bool false)]) ⟨rfl, (ev_base hN210 rfl q210_57), trivial⟩ (by obtain ⟨_, _, _, rfl⟩ := hO192.sl; obtain ⟨_, _, _, rfl⟩ := hO201.sl; kernel_rfl) ?_
        intro w211 b212 lo_b212 hi_b212 hB214 E213
        have dj215 : ¬ F0S b212 := fun hf => by have := (hS.lt _ hf).2; omega
        have ne_b212_lv : lv.ownBlock ≠ some b212 := fun hh => by have := (hO40.lt _ hh).2; omega
        have z_w211 := E213.size
        have hr := hr.keep0 E213
        have hlab : ∀ x9 ∈ (L.map Prod.fst), RdC w211 0 w.heap.size 1 x9.1 x9.2.length (x9.2.map u16v) := fun x9 hx9 => (hlab x9 hx9).keep0 E213
        have hown : ∀ x9 ∈ (L.map Prod.snd), RdC w211 0 w.heap.size 1 x9.1 x9.2.length (x9.2.map u16v) := fun x9 hx9 => (hown x9 hx9).keep0 E213
        have hB24 := hB24.keep0 E213
        have hxd := hxd.keep0 E213
        have hS := hS.keepG (Gr.of0 E213 NoB) (fun _ _ h => h)
        have hO40 := hO40.keep0 E213
        have hla := hla.keep0 E213
        have how := how.keep0 E213
        have hB53 := hB53.keep0 E213
        have hO192 := hO192.keep0 E213
        have hO201 := hO201.keep0 E213
        have hb := below_step0 hb E213 hb.size
        refine kt_end rfl ⟨hxd, hB53⟩ ?_
        refine kt_step (rs := [15]) (by kernel_rfl) ?_
        refine one_mem ?_
        intro w217 E217 _ a217 hN217 hbs217 hdp217 o_ ho_; obtain rfl := Option.some.inj ho_
        have z_w217 := E217.size
        have hr := hr.keep0 E217
        have hlab : ∀ x9 ∈ (L.map Prod.fst), RdC w217 0 w.heap.size 1 x9.1 x9.2.length (x9.2.map u16v) := fun x9 hx9 => (hlab x9 hx9).keep0 E217
        have hown : ∀ x9 ∈ (L.map Prod.snd), RdC w217 0 w.heap.size 1 x9.1 x9.2.length (x9.2.map u16v) := fun x9 hx9 => (hown x9 hx9).keep0 E217
        have hB24 := hB24.keep0 E217
        have hxd := hxd.keep0 E217
        have hS := hS.keepG (Gr.of0 E217 NoB) (fun _ _ h => h)
        have hO40 := hO40.keep0 E217
        have hla := hla.keep0 E217
        have how := how.keep0 E217
        have hB53 := hB53.keep0 E217
        have hO192 := hO192.keep0 E217
        have hO201 := hO201.keep0 E217
        have hB214 := hB214.keep0 E217
        have hb := below_step0 hb E217 hb.size
        have q217_48 : Sl a217 48 lv := (hdp217 4 _ 48 (by kernel_rfl) rfl rfl).2 rfl
        have q217_58 : Sl a217 58 (Value.slice (some ⟨b212, 0, none⟩) 1 1) := (Option.some.inj ((hdp217 14 _ 58 (by kernel_rfl) rfl rfl).1 rfl)).symm
        have hP223 := hO40
        refine op_append slt69 (ev_base hN217 rfl q217_48) hP223 (ev_base hN217 rfl q217_58) (Src.ofRd Try.underlying69 (by decide) (RdC.ofBx (sz := 4) (n := 1) hB214 rfl (by decide)) (by simp only [List.all_cons, List.all_nil, Bool.true_and, Bool.and_true, hO192.one, hO201.one]; try rfl)) (by unfold maxLen; omega) (by omega) hb.size ?_
        intro v218 w219 hO221 E220 hm222
        have dj224 : Dj F0S (Bl v218) := Dj.step hm222 (fun k hk => (hS.lt k hk).2) dj67.symm
        have z_w219 := E220.size
        have hr := hr.keepO hP223 E220 (by omega)
        have hlab : ∀ x9 ∈ (L.map Prod.fst), RdC w219 0 w.heap.size 1 x9.1 x9.2.length (x9.2.map u16v) := fun x9 hx9 => (hlab x9 hx9).keepO hP223 E220 (by omega)
        have hown : ∀ x9 ∈ (L.map Prod.snd), RdC w219 0 w.heap.size 1 x9.1 x9.2.length (x9.2.map u16v) := fun x9 hx9 => (hown x9 hx9).keepO hP223 E220 (by omega)
        have hB24 := hB24.keepO hP223 E220 (by decide)
        have hxd := hxd.keepO hP223 E220 (by decide)
        have hS := hS.keepG (Gr.of E220) dj67.symm
        have hla := hla.keepO hP223 E220 (by omega)
        have how := how.keepO hP223 E220 (by omega)
        have hB53 := hB53.keepO hP223 E220 (by decide)
        have hO192 := hO192.keepT hP223 E220 (by decide)
        have hO201 := hO201.keepT hP223 E220 (by decide)
        have hB214 := hB214.keep E220 (fun hh => ne_b212_lv hh.symm)
        have hb := below_stepO hb hP223 E220 hb.size (by omega)
        have hO221 : Own w219 w.heap.size 75 4 v218 (i + 1) ((C.flatMap cellsD ++ [v189, v198, (Value.slice none 0 0), (Value.bool false)])) := by simpa [u8v, u16v, sv] using hO221
        have ne_b212_v218 : v218.ownBlock ≠ some b212 := ne_step (w1 := w217) ⟨E220, hm222⟩ (by omega) ne_b212_lv
        refine kt_end rfl ⟨hxd, hB53⟩ ?_
        intro w225 E225 a225 hN225 hd225 hbs225 hph225
        have hd225 := hd225.trans ((by simp only [putsL_defers] : _ = _).trans hd39)
        have z_w225 := E225.size
        have hr := hr.keep0 E225
        have hlab : ∀ x9 ∈ (L.map Prod.fst), RdC w225 0 w.heap.size 1 x9.1 x9.2.length (x9.2.map u16v) := fun x9 hx9 => (hlab x9 hx9).keep0 E225
        have hown : ∀ x9 ∈ (L.map Prod.snd), RdC w225 0 w.heap.size 1 x9.1 x9.2.length (x9.2.map u16v) := fun x9 hx9 => (hown x9 hx9).keep0 E225
        have hB24 := hB24.keep0 E225
        have hxd := hxd.keep0 E225
        have hS := hS.keepG (Gr.of0 E225 NoB) (fun _ _ h => h)
        have hla := hla.keep0 E225
        have how := how.keep0 E225
        have hB53 := hB53.keep0 E225
        have hO192 := hO192.keep0 E225
        have hO201 := hO201.keep0 E225
        have hB214 := hB214.keep0 E225
        have hO221 := hO221.keep0 E225
        have hb := below_step0 hb E225 hb.size
        have s225_1 := (hbs225 1 rfl).trans (sl_base hN39 rfl s39_1)
        have s225_4 := (hbs225 4 rfl).trans (sl_base hN39 rfl s39_4)
        have s225_5 := (hbs225 5 rfl).trans (sl_base hN39 rfl s39_5)
        have s225_44 : Sl a225 44 (ptr b34 0) := (hph225 0 _ 44 rfl rfl).2 rfl
        have s225_59 : Sl a225 59 v218 := (Option.some.inj ((hph225 15 _ 59 rfl rfl).1 rfl)).symm
        refine split_end ?_
        refine from_seq (tl := [_, _, _]) (by decide) (by kernel_rfl) rfl ?_
        refine op_nil (ev_base hN225 rfl s225_44) ?_
        refine op_field fld72_1 (ev_hit hN225 rfl) ?_
        have hxd_old := hxd
        refine op_store (vs := [v218]) (cs' := [(ptr m30 0), v218, (Value.slice none 0 0)]) size69 (ev_hit hN225 rfl) (ev_base hN225 rfl s225_59) hO221.cl rfl (by simp only [List.all_cons, List.all_nil, Bool.true_and, Bool.and_true, hO221.one]; try rfl) hxd (Nat.le_of_ble_eq_true rfl) rfl ?_
        intro w228 hxd E229
        have z_w228 := E229.size
        have hr := hr.keep E229 (fun k hk => .inr (by simp at hk; omega))
        have hlab : ∀ x9 ∈ (L.map Prod.fst), RdC w228 0 w.heap.size 1 x9.1 x9.2.length (x9.2.map u16v) := fun x9 hx9 => (hlab x9 hx9).keep E229 (fun k hk => .inr (by simp at hk; omega))
        have hown : ∀ x9 ∈ (L.map Prod.snd), RdC w228 0 w.heap.size 1 x9.1 x9.2.length (x9.2.map u16v) := fun x9 hx9 => (hown x9 hx9).keep E229 (fun k hk => .inr (by simp at hk; omega))
        have hB24 := hB24.keep E229 (by simp; omega)
        have hS := hS.keepG (Gr.of E229) (Dj.one dj66)
        have hla := hla.keep E229 (fun k hk => .inr (by simp at hk; omega))
        have how := how.keep E229 (fun k hk => .inr (by simp at hk; omega))
        have hB53 := hB53.keep E229 (by simp; omega)
        have hO192 := hO192.keepX hxd_old E229 (by decide)
        have hO201 := hO201.keepX hxd_old E229 (by decide)
        have hB214 := hB214.keep E229 (by simp; omega)
        have hO221 := hO221.keepX hxd_old E229 (by decide)
        have hb := below_step1 hb E229 hb.size (by omega)
        refine reg_nil ?_
        refine hK45 _ _ ?_
        exact hJ43 _ _ _ hN225 hd225 ⟨v218, (C ++ [⟨v189, v198, Value.slice none 0 0⟩]), (fun x => F0S x ∨ Bl v189 x ∨ Bl v198 x ∨ Bl (Value.slice none 0 0) x), (sl_base hN225 rfl s225_1), (sl_base hN225 rfl s225_4), (sl_base hN225 rfl s225_5), (by simp; omega), (may_snoc hmay c36 c41), hb, (by omega), hr, hlab, hown, hB24, (hO221.cast (by omega) (by simp [List.flatMap_append, cellsD])), hxd, (by rw [ks_step (by omega)]; exact hS.snoc (hO192.cast (Nat.zero_add _) rfl) (hO201.cast (Nat.zero_add _) rfl) (Own.nil _ _ _ _))⟩
      · -- 41F
       rw [c41]
       refine g_true (j := 4) (dj := 38) (b := false) rfl rfl rfl (ev_hit hN39 rfl) ?_
       refine op_not (ev_hit hN39 rfl) ?_
       refine op_pick_f (ev_hit hN39 rfl) (ev_hit hN39 rfl) ?_
       refine reg_nil ?_
       refine hK60 _ _ ?_
       refine wp_cond_true (ev_hit hN39 rfl) ?_
       refine seq_any fun K230 hK230 => ?_
       refine one_reg ?_
       refine op_assign rfl ?_
       refine op_assign rfl ?_
       refine reg_nil ?_
       refine hK230 _ _ ?_
       refine wp_ret (then_ret (blk_ret (then_ret (then_ret (blk_ret (then_ret ( ?_)))))))
       refine ret2 rfl hd39 (ev_hit hN39 rfl) (ev_hit hN39 rfl) ⟨_, rfl, ?_⟩
       -- path 10F 15F 26T 36T 41F
       exact ⟨hb, .inl ⟨cfg_f2 (not_may (i := i) (by omega) (by first | exact .inl c36 | exact .inr c41)), rfl⟩⟩
     · -- 36F
      rw [c36]
      refine op_not (ev_hit hN39 rfl) ?_
      refine op_move (ev_hit hN39 rfl) ?_
      refine g_false (j := 4) (dj := 38) (b := false) rfl rfl rfl (ev_hit hN39 rfl) rfl rfl ?_
      refine g_false (j := 4) (dj := 38) (b := false) rfl rfl rfl (ev_hit hN39 rfl) rfl rfl ?_
      refine g_false (j := 4) (dj := 38) (b := false) rfl rfl rfl (ev_hit hN39 rfl) rfl rfl ?_
      refine g_false (j := 4) (dj := 38) (b := false) rfl rfl rfl (ev_hit hN39 rfl) rfl rfl ?_
      refine op_pick_t (ev_hit hN39 rfl) rfl ?_
      refine reg_nil ?_
      refine hK60 _ _ ?_
      refine wp_cond_true (ev_hit hN39 rfl) ?_
      refine seq_any fun K231 hK231 => ?_
      refine one_reg ?_
      refine op_assign rfl ?_
      refine op_assign rfl ?_
      refine reg_nil ?_
      refine hK231 _ _ ?_
      refine wp_ret (then_ret (blk_ret (then_ret (then_ret (blk_ret (then_ret ( ?_)))))))
      refine ret2 rfl hd39 (ev_hit hN39 rfl) (ev_hit hN39 rfl) ⟨_, rfl, ?_⟩
      -- path 10F 15F 26T 36F
      exact ⟨hb, .inl ⟨cfg_f2 (not_may (i := i) (by omega) (by first | exact .inl c36 | exact .inr c41)), rfl⟩⟩
    ·
     rintro a43 w43 hN43 hd43 ⟨lv2, C2, FS2, s43_1, s43_4, s43_5, hC2, hmay2, hb, zl_w43, hr, hlab, hown, hB24, hO44, hxd2, hS2⟩
     have z_w43 := hb.size
     refine one_reg ?_
     refine op_move (ev_base hN43 rfl s43_5) ?_
     refine op_add (ev_hit hN43 rfl) rfl (add64 (by omega)) ?_
     refine op_assign (ev_hit hN43 rfl) ?_
     refine reg_nil ?_
     -- round 10F 15F 26T
     exact loop_next _ hN43 hd43 ⟨(i + 1), lv2, C2, FS2, rfl, (sl_base hN43 rfl s43_1), (sl_base hN43 rfl s43_4), (sl_hit hN43 rfl).trans (congrArg (Value.int .i64) (by omega)), (by omega), hC2, hmay2, hb, (by omega), hr, hlab, hown, hB24, hxd2, hS2, hO44⟩ (by omega)
   · -- 26F
    refine reg_nil ?_
    refine hK42 _ _ ?_
    refine wp_cond_false (ev_hit hN39 rfl) ?_
    refine wp_exit (then_exit (then_exit (blk_hit ?_)))
    refine hK37 _ _ ?_
    refine seq_any fun K232 hK232 => ?_
    refine seq_any fun K233 hK233 => ?_
    refine one_reg ?_
    refine op_field fld59_1 (ev_base hN39 rfl s39_1) ?_
    refine op_load1 (v := (Value.int .i64 q)) one3 (ev_hit hN39 rfl) (hB24.cell rfl) ?_
    refine op_lss (ev_hit hN39 rfl) rfl (fun c64 => ?_) (fun c64 => ?_)
    · -- 64T
     refine op_move (ev_hit hN39 rfl) ?_
     refine g_false (j := 3) (dj := 65) (b := false) rfl rfl rfl (ev_hit hN39 rfl) rfl rfl ?_
     refine g_false (j := 3) (dj := 65) (b := false) rfl rfl rfl (ev_hit hN39 rfl) rfl rfl ?_
     refine g_false (j := 3) (dj := 65) (b := false) rfl rfl rfl (ev_hit hN39 rfl) rfl rfl ?_
     refine op_pick_t (ev_hit hN39 rfl) rfl ?_
     refine reg_nil ?_
     refine hK233 _ _ ?_
     refine wp_cond_true (ev_hit hN39 rfl) ?_
     refine seq_any fun K234 hK234 => ?_
     refine one_reg ?_
     refine op_assign rfl ?_
     refine op_assign rfl ?_
     refine reg_nil ?_
     refine hK234 _ _ ?_
     refine wp_ret (then_ret ( ?_))
     refine ret2 rfl hd39 (ev_hit hN39 rfl) (ev_hit hN39 rfl) ⟨_, rfl, ?_⟩
     -- path 10F 15F 26F 64T
     exact ⟨hb, .inl ⟨cfg_f1 (by omega), rfl⟩⟩
    · -- 64F
     refine op_move (ev_hit hN39 rfl) ?_
     refine g_true (j := 3) (dj := 65) (b := false) rfl rfl rfl (ev_hit hN39 rfl) ?_
     refine op_field fld59_1 (ev_base hN39 rfl s39_1) ?_
     refine g_true (j := 3) (dj := 65) (b := false) rfl rfl rfl (ev_hit hN39 rfl) ?_
     refine op_load1 (v := (Value.int .i64 q)) one3 (ev_hit hN39 rfl) (hB24.cell rfl) ?_
     refine g_true (j := 3) (dj := 65) (b := false) rfl rfl rfl (ev_hit hN39 rfl) ?_
     refine op_gtr (ev_hit hN39 rfl) rfl (fun c68 => ?_) (fun c68 => ?_)
     · -- 68T
      refine op_pick_f (ev_hit hN39 rfl) (ev_hit hN39 rfl) ?_
      refine reg_nil ?_
      refine hK233 _ _ ?_
      refine wp_cond_true (ev_hit hN39 rfl) ?_
      refine seq_any fun K235 hK235 => ?_
      refine one_reg ?_
      refine op_assign rfl ?_
      refine op_assign rfl ?_
      refine reg_nil ?_
      refine hK235 _ _ ?_
      refine wp_ret (then_ret ( ?_))
      refine ret2 rfl hd39 (ev_hit hN39 rfl) (ev_hit hN39 rfl) ⟨_, rfl, ?_⟩
      -- path 10F 15F 26F 64F 68T
      exact ⟨hb, .inl ⟨cfg_f1 (by omega), rfl⟩⟩
     · -- 68F
      refine op_pick_f (ev_hit hN39 rfl) (ev_hit hN39 rfl) ?_
      refine reg_nil ?_
      refine hK233 _ _ ?_
      refine wp_cond_false (ev_hit hN39 rfl) ?_
      refine wp_skip ?_
      refine hK232 _ _ ?_
      refine seq_any fun K236 hK236 => ?_
      refine one_reg ?_
      refine op_move (ev_base hN39 rfl s39_4) ?_
      refine op_assign (ev_hit hN39 rfl) ?_
      refine op_assign rfl ?_
      refine reg_nil ?_
      refine hK236 _ _ ?_
      refine wp_ret ?_
      refine ret2 rfl hd39 (ev_hit hN39 rfl) (ev_hit hN39 rfl) ⟨_, rfl, ?_⟩
      -- path 10F 15F 26F 64F 68F
      obtain rfl : i = L.length := by omega
      rw [List.take_length] at hS
      exact ⟨hb, .inr ⟨cfg_t (by omega) (by omega) (by omega) (by omega) (all_may hmay (Nat.le_refl _)), b34, _, rfl, hS.new (by omega) hxd (hO40.cast (by simp) rfl)⟩⟩


theorem newDBT {L : List CSn} {q : Int} {vL : Value} {w : World} (hok : cfgOk L q = true) (hL : L.length ≤ 9223372036854775807) (hll : ∀ x ∈ L, x.1.2.length ≤ 9223372036854775807 ∧ x.2.2.length ≤ 9223372036854775807) (hr : RdC w 0 w.heap.size 2 vL L.length (L.flatMap cells2)) (hlab : ∀ x9 ∈ (L.map Prod.fst), RdC w 0 w.heap.size 1 x9.1 x9.2.length (x9.2.map u16v)) (hown : ∀ x9 ∈ (L.map Prod.snd), RdC w 0 w.heap.size 1 x9.1 x9.2.length (x9.2.map u16v)) : Ret Try.prog 36 #[.agg #[vL, .int .i64 q]] w (fun v' w' => Below w.heap.size w w' ∧ ∃ (d : Nat) (F : Nat → Prop), v' = .tuple #[ptr d 0, .int .i64 0] ∧ DbR w' w.heap.size d (L.map ksOf) [] F) :=
  (newDB_ret L q vL w hL hll hr hlab hown).mono fun v' w' h => ⟨h.1, h.2.elim (fun q => absurd (hok.symm.trans q.1) (by decide)) (fun q => q.2)⟩
theorem newDBF {L : List CSn} {q : Int} {vL : Value} {w : World} (hok : cfgOk L q = false) (hL : L.length ≤ 9223372036854775807) (hll : ∀ x ∈ L, x.1.2.length ≤ 9223372036854775807 ∧ x.2.2.length ≤ 9223372036854775807) (hr : RdC w 0 w.heap.size 2 vL L.length (L.flatMap cells2)) (hlab : ∀ x9 ∈ (L.map Prod.fst), RdC w 0 w.heap.size 1 x9.1 x9.2.length (x9.2.map u16v)) (hown : ∀ x9 ∈ (L.map Prod.snd), RdC w 0 w.heap.size 1 x9.1 x9.2.length (x9.2.map u16v)) : Ret Try.prog 36 #[.agg #[vL, .int .i64 q]] w (fun v' w' => Below w.heap.size w w' ∧ v' = .tuple #[.pointer none, .int .i64 1]) :=
  (newDB_ret L q vL w hL hll hr hlab hown).mono fun v' w' h => ⟨h.1, h.2.elim (fun q => q.2) (fun q => absurd (hok.symm.trans q.1) (by decide))⟩
theorem at_nat {S : List KS} {i : Nat} (h : i < S.length) : atS S (i : Int) = S.getD i default ∧ inS S (i : Int) = true := by
  have hi : inS S (i : Int) = true := by unfold inS; simp; omega
  exact ⟨by unfold atS; rw [if_pos hi, Int.toNat_natCast], hi⟩
theorem ks_texts {L : List CSn} {i : Nat} : ((L.map ksOf).getD i default).texts = [] := by
  by_cases h : i < L.length
  · simp [List.getD_eq_getElem?_getD, h, ksOf]
  · simp [List.getD_eq_getElem?_getD, h]; rfl
end Go.Proofs.Ytmhdbphpmgjpcaa

/- Walks, written by a program: what each function of the translation hands back. -/
namespace Go.Proofs.Ytmhdbphpmgjpcaa
open Go.Gx Go.RowKit
attribute [local irreducible] wpList wpStill Code.wp Calls

theorem begun24_ret (w : World) : Ret Try.prog 31 #[] w (fun v' w' => Below w.heap.size w w' ∧ v' = .bool true) := by
 have hb := Below.refl w.heap.size w
 refine enter (N := 64) Try.func31 rfl rfl (by simp) fun a0 hN hd hA => ?_
 clear hA
 refine seq_any fun K1 hK1 => ?_
 refine one_reg ?_
 refine op_assign rfl ?_
 refine reg_nil ?_
 refine hK1 _ _ ?_
 refine seq_any fun K2 hK2 => ?_
 refine one_reg ?_
 refine op_build (pv := []) (v := (Value.agg #[(Value.slice none 0 0), (Value.slice none 0 0)])) trivial (by kernel_rfl) ?_
 refine op_bslice (e := 56) (pv := [(0, (Value.agg #[(Value.slice none 0 0), (Value.slice none 0 0)]))]) (cs := [(Value.slice none 0 0), (Value.slice none 0 0)]) ⟨rfl, (ev_hit hN rfl), trivial⟩ (by kernel_rfl) ?_
 intro w3 b4 lo_b4 hi_b4 hB6 E5
 have z_w3 := E5.size
 have hb := below_step0 hb E5 hb.size
 refine op_build (pv := [(1, (Value.int .i64 5)), (0, (Value.slice (some ⟨b4, 0, none⟩) 1 1))]) (v := (Value.agg #[(Value.slice (some ⟨b4, 0, none⟩) 1 1), (Value.int .i64 5)])) ⟨rfl, rfl, ⟨rfl, (ev_hit hN rfl), trivial⟩⟩ (by kernel_rfl) ?_
 refine op_fn (vs := [(Value.agg #[(Value.slice (some ⟨b4, 0, none⟩) 1 1), (Value.int .i64 5)])]) ok32 ⟨(ev_hit hN rfl), trivial⟩ (kernNewT (show cfgOk ([((Value.slice none 0 0, []), (Value.slice none 0 0, []))] : List CSn) 5 = true by decide) (L := ([((Value.slice none 0 0, []), (Value.slice none 0 0, []))] : List CSn)) (q := 5) (by decide) (fun x hx => by simp at hx; subst hx; decide) (by first | exact ((RdC.ofBx (sz := 2) (n := 1) hB6 rfl (by decide)).mono (Nat.zero_le _) (by have := hB6.lt; omega)) | exact (((RdC.ofBx (sz := 2) (n := 1) hB6 rfl (by decide)).mono (Nat.zero_le _) (by have := hB6.lt; omega))).cast (by simp) (by simp [cells2])) (fun x hx => by simp at hx; obtain rfl := hx; exact RdC.nil _ _ _ _) (fun x hx => by simp at hx; obtain rfl := hx; exact RdC.nil _ _ _ _)) ?_
 rintro _ w8 ⟨E9, k7, F7, rfl, hk7⟩
 have lo_F7 : ∀ x, F7 x → w3.heap.size ≤ x := fun x hx => (hk7.lt x hx).1
 have dj10 : ¬ F7 b4 := fun hf => by have := lo_F7 _ hf; have := hB6.lt; omega
 have E9 := grown_of_below E9
 have z_w8 := E9.size
 have hB6 := hB6.keep0 E9
 have hb := below_step0 hb E9 hb.size
 have hk7 : KernR w8 w.heap.size k7 ([⟨[], [], []⟩] : List KS) ([] : List (List UInt8 × Int)) F7 := hk7.mono (by omega)
 have ok_hk7 : SOk ([⟨[], [], []⟩] : List KS) := (cfg_ok (show cfgOk ([((Value.slice none 0 0, []), (Value.slice none 0 0, []))] : List CSn) 5 = true by decide)).2.2.2.2
 refine op_move (ev_hit hN rfl) ?_
 refine op_extract (ev_hit hN rfl) rfl ?_
 refine op_extract (ev_hit hN rfl) rfl ?_
 refine op_assign (ev_hit hN rfl) ?_
 refine op_assign (ev_hit hN rfl) ?_
 refine reg_nil ?_
 refine hK2 _ _ ?_
 refine seq_any fun K11 hK11 => ?_
 refine seq_any fun K12 hK12 => ?_
 refine one_reg ?_
 refine op_move (ev_hit hN rfl) ?_
 refine op_bin (v := .bool false) (ev_hit hN rfl) rfl (by rw [binOp_neq]; rfl) ?_
 refine op_move (ev_hit hN rfl) ?_
 refine g_true (j := 2) (dj := 16) (b := false) rfl rfl rfl (ev_hit hN rfl) ?_
 refine op_move (ev_hit hN rfl) ?_
 refine g_true (j := 2) (dj := 16) (b := false) rfl rfl rfl (ev_hit hN rfl) ?_
 refine op_peq_some ptrt50 (ev_hit hN rfl) rfl ?_
 refine op_pick_f (ev_hit hN rfl) (ev_hit hN rfl) ?_
 refine reg_nil ?_
 refine hK12 _ _ ?_
 refine wp_cond_false (ev_hit hN rfl) ?_
 refine wp_skip ?_
 refine hK11 _ _ ?_
 refine seq_any fun K13 hK13 => ?_
 refine one_reg ?_
 refine op_move (ev_hit hN rfl) ?_
 refine op_fn (vs := [(ptr k7 0), (Value.int .i64 0), (Value.string (bs [120]))]) ok40 ⟨(ev_hit hN rfl), ⟨rfl, ⟨rfl, trivial⟩⟩⟩ (SayR 0 ([120]) (by omega) ok_hk7.1 hk7) ?_
 rintro _ w15 ⟨E16, rfl, F14, hk14, hN14⟩
 have bd17 := hB6.lt
 have hk7_old := hk7
 have z_w15 := E16.size
 have hB6 := hB6.keepG E16 dj10
 have hb := below_stepG hb E16 hb.size (fun k hk => (hk7_old.lt k hk).1)
 have dj18 : ¬ F14 b4 := ne_stepF hN14 bd17 dj10
 have hk14 : KernR w15 w.heap.size k7 ([⟨[], [], [[120]]⟩] : List KS) ([] : List (List UInt8 × Int)) F14 := hk14
 refine op_assign (ev_hit hN rfl) ?_
 refine reg_nil ?_
 refine hK13 _ _ ?_
 refine seq_any fun K19 hK19 => ?_
 refine one_reg ?_
 refine op_move (ev_hit hN rfl) ?_
 refine op_fn (vs := [(ptr k7 0), (Value.int .i64 0)]) ok41 ⟨(ev_hit hN rfl), ⟨rfl, trivial⟩⟩ (HeadR 0 (by omega) (ok_hk7.say 0 ([120])).1 hk14) ?_
 rintro _ w21 ⟨E22, rfl, F20, hk20, hN20⟩
 have bd23 := hB6.lt
 have hk14_old := hk14
 have z_w21 := E22.size
 have hB6 := hB6.keepG E22 dj18
 have hb := below_stepG hb E22 hb.size (fun k hk => (hk14_old.lt k hk).1)
 have dj24 : ¬ F20 b4 := ne_stepF hN20 bd23 dj18
 refine op_move (ev_hit hN rfl) ?_
 refine op_extract (ev_hit hN rfl) rfl ?_
 refine op_extract (ev_hit hN rfl) rfl ?_
 refine op_assign (ev_hit hN rfl) ?_
 refine op_assign (ev_hit hN rfl) ?_
 refine reg_nil ?_
 refine hK19 _ _ ?_
 refine seq_any fun K25 hK25 => ?_
 refine one_reg ?_
 refine op_move (ev_hit hN rfl) ?_
 refine op_bslice (e := 46) (pv := [(0, (Value.int .u16 4))]) (cs := [(Value.int .u16 4)]) ⟨rfl, rfl, trivial⟩ (by kernel_rfl) ?_
 intro w26 b27 lo_b27 hi_b27 hB29 E28
 have dj30 : ¬ F20 b27 := fun hf => by have := (hk20.lt _ hf).2; omega
 have z_w26 := E28.size
 have hB6 := hB6.keep0 E28
 have hk20 := hk20.keepG (Gr.of0 E28 NoB) (fun _ _ h => h)
 have hb := below_step0 hb E28 hb.size
 refine op_fn (vs := [(ptr k7 0), (Value.int .i64 0), (Value.slice (some ⟨b27, 0, none⟩) 1 1)]) ok44 ⟨(ev_hit hN rfl), ⟨rfl, ⟨(ev_hit hN rfl), trivial⟩⟩⟩ (RaiseR 0 (t := [4]) (by omega) (ok_hk7.say 0 ([120])).1 hk20 (ok_hk7.say 0 ([120])).lab (by first | assumption | omega | (simp only [List.length_append, List.length_cons, List.length_nil, List.length_drop, List.length_take]; omega) | (dsimp only; omega) | decide | (simp [keyV, be8_len]; done)) (((RdC.ofBx (sz := 1) (n := 1) hB29 rfl (by decide)).mono (Nat.zero_le _) (by have := hB29.lt; omega)).cast (by simp) (by simp [u16v]))) ?_
 rintro _ w32 ⟨E33, rfl, F31, hk31, hN31⟩
 have bd34 := hB6.lt
 have bd35 := hB29.lt
 have hk20_old := hk20
 have z_w32 := E33.size
 have hB6 := hB6.keepG E33 dj24
 have hB29 := hB29.keepG E33 dj30
 have hb := below_stepG hb E33 hb.size (fun k hk => (hk20_old.lt k hk).1)
 have dj36 : ¬ F31 b4 := ne_stepF hN31 bd34 dj24
 have dj37 : ¬ F31 b27 := ne_stepF hN31 bd35 dj30
 have hk31 : KernR w32 w.heap.size k7 ([⟨[4], [], [[120]]⟩] : List KS) ([] : List (List UInt8 × Int)) F31 := hk31
 refine op_assign (ev_hit hN rfl) ?_
 refine reg_nil ?_
 refine hK25 _ _ ?_
 refine seq_any fun K38 hK38 => ?_
 refine one_reg ?_
 refine op_move (ev_hit hN rfl) ?_
 refine op_bin (v := .bool true) (ev_hit hN rfl) rfl (by rw [binOp_eql]; rfl) ?_
 refine op_move (ev_hit hN rfl) ?_
 refine g_true (j := 2) (dj := 32) (b := true) rfl rfl rfl (ev_hit hN rfl) ?_
 refine op_move (ev_hit hN rfl) ?_
 refine op_pick_t (ev_hit hN rfl) (ev_hit hN rfl) ?_
 refine op_move (ev_hit hN rfl) ?_
 refine g_true (j := 5) (dj := 35) (b := true) rfl rfl rfl (ev_hit hN rfl) ?_
 refine op_move (ev_hit hN rfl) ?_
 refine g_true (j := 5) (dj := 35) (b := true) rfl rfl rfl (ev_hit hN rfl) ?_
 refine op_seql (ev_hit hN rfl) rfl (fun c37 => ?_) (fun c37 => ?_)
 · -- 37T
  refine op_pick_t (ev_hit hN rfl) (ev_hit hN rfl) ?_
  refine op_move (ev_hit hN rfl) ?_
  refine g_true (j := 9) (dj := 39) (b := true) rfl rfl rfl (ev_hit hN rfl) ?_
  refine op_move (ev_hit hN rfl) ?_
  refine g_true (j := 9) (dj := 39) (b := true) rfl rfl rfl (ev_hit hN rfl) ?_
  refine op_bin (v := .bool true) (ev_hit hN rfl) rfl (by rw [binOp_eql]; rfl) ?_
  refine op_pick_t (ev_hit hN rfl) (ev_hit hN rfl) ?_
  refine op_move (ev_hit hN rfl) ?_
  refine g_true (j := 13) (dj := 43) (b := true) rfl rfl rfl (ev_hit hN rfl) ?_
  refine op_move (ev_hit hN rfl) ?_
  refine g_true (j := 13) (dj := 43) (b := true) rfl rfl rfl (ev_hit hN rfl) ?_
  refine op_fn (vs := [(ptr k7 0), (Value.int .i64 0)]) ok37 ⟨(ev_hit hN rfl), ⟨rfl, trivial⟩⟩ (LabelR 0 (by omega) ((ok_hk7.say 0 ([120])).raise 0 [4]).1 hk31 ((ok_hk7.say 0 ([120])).raise 0 [4]).lab) ?_
  rintro v39 w40 ⟨E41, hO39⟩
  have dj42 : Dj F31 (Bl v39) := Dj.fresh (fun k hk => (hk31.lt k hk).2) (fun k hk => (hO39.lt k hk).1)
  have E41 := grown_of_below E41
  have z_w40 := E41.size
  have hB6 := hB6.keep0 E41
  have hB29 := hB29.keep0 E41
  have hk31 := hk31.keepG (Gr.of0 E41 NoB) (fun _ _ h => h)
  have hb := below_step0 hb E41 hb.size
  have hO39 := hO39.mono (base' := w.heap.size) (by omega)
  have hl39 := mayL_len (((ok_hk7.say 0 ([120])).raise 0 [4]).at 0).1
  refine g_true (j := 13) (dj := 43) (b := true) rfl rfl rfl (ev_hit hN rfl) ?_
  refine op_len_rd Try.underlying54 (ev_hit hN rfl) hO39.rdw ?_
  refine g_true (j := 13) (dj := 43) (b := true) rfl rfl rfl (ev_hit hN rfl) ?_
  refine op_eql (ev_hit hN rfl) rfl (fun c47 => ?_) (fun c47 => ?_)
  · -- 47T
   refine op_pick_t (ev_hit hN rfl) (ev_hit hN rfl) ?_
   refine op_move (ev_hit hN rfl) ?_
   refine g_true (j := 19) (dj := 49) (b := true) rfl rfl rfl (ev_hit hN rfl) ?_
   refine op_move (ev_hit hN rfl) ?_
   refine g_true (j := 19) (dj := 49) (b := true) rfl rfl rfl (ev_hit hN rfl) ?_
   refine op_fn (vs := [(ptr k7 0), (Value.slice none 0 0)]) ok35 ⟨(ev_hit hN rfl), ⟨rfl, trivial⟩⟩ (StampR (x := []) (by omega) (by first | assumption | omega | (simp only [List.length_append, List.length_cons, List.length_nil, List.length_drop, List.length_take]; omega) | (dsimp only; omega) | decide | (simp [keyV, be8_len]; done)) ((RdC.nil _ 0 0 1).mono (Nat.zero_le _) (by omega)) hk31) ?_
   rintro _ w44 ⟨E45, rfl, hk43⟩
   have hk31_old := hk31
   have z_w44 := E45.size
   have hB6 := hB6.keepG E45 dj36
   have hB29 := hB29.keepG E45 dj37
   have hO39 := hO39.keepG E45 dj42.symm
   have hb := below_stepG hb E45 hb.size (fun k hk => (hk31_old.lt k hk).1)
   have hk43 : KernR w44 w.heap.size k7 ([⟨[4], [], [[120]]⟩] : List KS) ([(putL [], 1)] : List (List UInt8 × Int)) F31 := hk43
   refine g_true (j := 19) (dj := 49) (b := true) rfl rfl rfl (ev_hit hN rfl) ?_
   refine op_bin (v := .bool true) (ev_hit hN rfl) rfl (by rw [binOp_eql]; rfl) ?_
   refine op_pick_t (ev_hit hN rfl) (ev_hit hN rfl) ?_
   refine op_move (ev_hit hN rfl) ?_
   refine g_true (j := 24) (dj := 54) (b := true) rfl rfl rfl (ev_hit hN rfl) ?_
   refine op_move (ev_hit hN rfl) ?_
   refine g_true (j := 24) (dj := 54) (b := true) rfl rfl rfl (ev_hit hN rfl) ?_
   refine op_fn (vs := [(ptr k7 0), (Value.slice none 0 0)]) ok35 ⟨(ev_hit hN rfl), ⟨rfl, trivial⟩⟩ (StampR (x := []) (by omega) (by first | assumption | omega | (simp only [List.length_append, List.length_cons, List.length_nil, List.length_drop, List.length_take]; omega) | (dsimp only; omega) | decide | (simp [keyV, be8_len]; done)) ((RdC.nil _ 0 0 1).mono (Nat.zero_le _) (by omega)) hk43) ?_
   rintro _ w47 ⟨E48, rfl, hk46⟩
   have hk43_old := hk43
   have z_w47 := E48.size
   have hB6 := hB6.keepG E48 dj36
   have hB29 := hB29.keepG E48 dj37
   have hO39 := hO39.keepG E48 dj42.symm
   have hb := below_stepG hb E48 hb.size (fun k hk => (hk43_old.lt k hk).1)
   have hk46 : KernR w47 w.heap.size k7 ([⟨[4], [], [[120]]⟩] : List KS) ([(putL [], 2)] : List (List UInt8 × Int)) F31 := hk46
   refine g_true (j := 24) (dj := 54) (b := true) rfl rfl rfl (ev_hit hN rfl) ?_
   refine op_bin (v := .bool true) (ev_hit hN rfl) rfl (by rw [binOp_eql]; rfl) ?_
   refine op_pick_t (ev_hit hN rfl) (ev_hit hN rfl) ?_
   refine op_move (ev_hit hN rfl) ?_
   refine g_true (j := 29) (dj := 59) (b := true) rfl rfl rfl (ev_hit hN rfl) ?_
   refine op_move (ev_hit hN rfl) ?_
   refine g_true (j := 29) (dj := 59) (b := true) rfl rfl rfl (ev_hit hN rfl) ?_
   refine op_fn (vs := [(ptr k7 0)]) ok49 ⟨(ev_hit hN rfl), trivial⟩ (Ret.flip (SessionsR (by omega) ((ok_hk7.say 0 ([120])).raise 0 [4]).1 hk46)) ?_
   rintro _ _ ⟨rfl, rfl⟩
   refine g_true (j := 29) (dj := 59) (b := true) rfl rfl rfl (ev_hit hN rfl) ?_
   refine op_eql (ev_hit hN rfl) rfl (fun c62 => ?_) (fun c62 => ?_)
   · -- 62T
    refine op_pick_t (ev_hit hN rfl) (ev_hit hN rfl) ?_
    refine op_assign (ev_hit hN rfl) ?_
    refine reg_nil ?_
    refine hK38 _ _ ?_
    refine wp_ret ?_
    refine ret1 rfl hd (ev_hit hN rfl) ⟨_, rfl, ?_⟩
    -- path 37T 47T 62T
    exact ⟨hb, rfl⟩
   · -- 62F
    exact absurd rfl c62
  · -- 47F
   exact absurd rfl c47
 · -- 37F
  exact absurd rfl c37

end Go.Proofs.Ytmhdbphpmgjpcaa

/- Small laws for walks, the thirty-fourth part: pointers that are not nil. -/
namespace Go.Gx
open Go.RowKit
section
variable {P : Program} {Q : Exit → Act → World → Prop} {a : Act} {w w' : World} {l : List (Nat × Value)} {ops : Array Oper} {rest : List Oper}
variable {d ty t e xt yt : Nat} {p : String} {af : Array Edge} {x y : Operand} {b off : Nat}
theorem run_pne (q : Option Addr) (ht : P.underlying xt = some (.pointer (P.pointee xt))) (hx : (putsL a l).eval x = .pointer q) (hy : (putsL a l).eval y = .pointer none) :
    (execOp (putsL a l).eval (⟨some d, .binOp .neq xt x y yt, ty, p, af, none⟩ : Oper)).run P w = .ok (.value (.bool !q.isNone)) w := by
  have h2 := run_neq_pointer_nil (P := P) (w := w) xt q ht
  have hg : (eqGuard .neq xt x y (Value.pointer q) (Value.pointer none)).run P w = .ok () w := by simp [eqGuard]
  simp only [execOp, hx, hy]
  simp [h2, hg]
theorem op_pne_some (ht : P.underlying xt = some (.pointer (P.pointee xt))) (hx : (putsL a l).eval x = ptr b off) (hy : (putsL a l).eval y = .pointer none) (h : wpList P ops Q rest (putsL a ((d, .bool true) :: l)) w) :
    wpList P ops Q (⟨some d, .binOp .neq xt x y yt, ty, p, af, none⟩ :: rest) (putsL a l) w := op_gen rfl (run_pne (some ⟨b, off, none⟩) ht hx hy) h
theorem op_pne_none (ht : P.underlying xt = some (.pointer (P.pointee xt))) (hx : (putsL a l).eval x = .pointer none) (hy : (putsL a l).eval y = .pointer none) (h : wpList P ops Q rest (putsL a ((d, .bool false) :: l)) w) :
    wpList P ops Q (⟨some d, .binOp .neq xt x y yt, ty, p, af, none⟩ :: rest) (putsL a l) w := op_gen rfl (run_pne none ht hx hy) h
end
end Go.Gx

/- Walks, written by a program: what each function of the translation hands back. -/
namespace Go.Proofs.Ytmhdbphpmgjpcaa
open Go.Gx Go.RowKit
attribute [local irreducible] wpList wpStill Code.wp Calls

theorem KernNew_ret (L : List CSn) (q : Int) (vL : Value) (w : World) (hL : L.length ≤ 9223372036854775807) (hll : ∀ x ∈ L, x.1.2.length ≤ 9223372036854775807 ∧ x.2.2.length ≤ 9223372036854775807) (hr : RdC w 0 w.heap.size 2 vL L.length (L.flatMap cells2)) (hlab : ∀ x9 ∈ (L.map Prod.fst), RdC w 0 w.heap.size 1 x9.1 x9.2.length (x9.2.map u16v)) (hown : ∀ x9 ∈ (L.map Prod.snd), RdC w 0 w.heap.size 1 x9.1 x9.2.length (x9.2.map u16v)) : Ret Try.prog 6 #[(Value.agg #[vL, (Value.int .i64 q)])] w (fun v' w' => Below w.heap.size w w' ∧ v' = .bool true) := by
 have hb := Below.refl w.heap.size w
 refine enter (N := 81) Try.func6 rfl rfl (by simp) fun a0 hN hd hA => ?_
 have s0 : a0.tmps.getD 0 undef = (Value.agg #[vL, (Value.int .i64 q)]) := hA 0 (by simp)
 clear hA
 refine seq_any fun K1 hK1 => ?_
 refine one_reg ?_
 refine op_box (cs := [vL, (Value.int .i64 q)]) (ev_base hN rfl s0) rfl ?_
 intro w2 b3 lo_b3 hi_b3 hB5 E4
 have z_w2 := E4.size
 have hr := hr.keep0 E4
 have hlab : ∀ x9 ∈ (L.map Prod.fst), RdC w2 0 w.heap.size 1 x9.1 x9.2.length (x9.2.map u16v) := fun x9 hx9 => (hlab x9 hx9).keep0 E4
 have hown : ∀ x9 ∈ (L.map Prod.snd), RdC w2 0 w.heap.size 1 x9.1 x9.2.length (x9.2.map u16v) := fun x9 hx9 => (hown x9 hx9).keep0 E4
 have hb := below_step0 hb E4 hb.size
 refine op_assign rfl ?_
 refine reg_nil ?_
 refine hK1 _ _ ?_
 refine seq_any fun K6 hK6 => ?_
 refine seq_any fun K7 hK7 => ?_
 refine one_reg ?_
 refine op_fn (vs := []) ok31 trivial (begun24_ret _) ?_
 rintro _ w8 ⟨E9, rfl⟩
 have E9 := grown_of_below E9
 have z_w8 := E9.size
 have hr := hr.keep0 E9
 have hlab : ∀ x9 ∈ (L.map Prod.fst), RdC w8 0 w.heap.size 1 x9.1 x9.2.length (x9.2.map u16v) := fun x9 hx9 => (hlab x9 hx9).keep0 E9
 have hown : ∀ x9 ∈ (L.map Prod.snd), RdC w8 0 w.heap.size 1 x9.1 x9.2.length (x9.2.map u16v) := fun x9 hx9 => (hown x9 hx9).keep0 E9
 have hB5 := hB5.keep0 E9
 have hb := below_step0 hb E9 hb.size
 refine op_not (ev_hit hN rfl) ?_
 refine reg_nil ?_
 refine hK7 _ _ ?_
 refine wp_cond_false (ev_hit hN rfl) ?_
 refine wp_skip ?_
 refine hK6 _ _ ?_
 refine seq_any fun K10 hK10 => ?_
 refine seq_any fun K11 hK11 => ?_
 refine one_reg ?_
 refine op_field fld59_0 (ev_hit hN rfl) ?_
 refine op_load1 (v := vL) one57 (ev_hit hN rfl) (hB5.cell rfl) ?_
 refine op_len_rd Try.underlying57 (ev_hit hN rfl) hr ?_
 refine op_gtr (ev_hit hN rfl) rfl (fun c13 => ?_) (fun c13 => ?_)
 · -- 13T
  refine reg_nil ?_
  refine hK11 _ _ ?_
  refine wp_cond_true (ev_hit hN rfl) ?_
  refine seq_any fun K12 hK12 => ?_
  refine one_reg ?_
  refine op_assign rfl ?_
  refine reg_nil ?_
  refine hK12 _ _ ?_
  refine wp_ret (then_ret ( ?_))
  refine ret1 rfl hd (ev_hit hN rfl) ⟨_, rfl, ?_⟩
  -- path 13T
  exact ⟨hb, rfl⟩
 · -- 13F
  refine reg_nil ?_
  refine hK11 _ _ ?_
  refine wp_cond_false (ev_hit hN rfl) ?_
  refine wp_skip ?_
  refine hK10 _ _ ?_
  refine seq_any fun K13 hK13 => ?_
  refine one_reg ?_
  refine op_loadA (cs := [vL, (Value.int .i64 q)]) agg59 rfl (ev_hit hN rfl) (fun j u hu => by rw [Nat.zero_add]; exact hB5.cell hu) ?_
  rcases Bool.eq_false_or_eq_true ((cfgOk L q)) with k16 | k16
  · -- 16T
   refine op_fn (vs := [(Value.agg #[vL, (Value.int .i64 q)])]) ok32 ⟨(ev_hit hN rfl), trivial⟩ (kernNewT k16 (L := L) (q := q) hL (by assumption) (hr.mono (Nat.zero_le _) (by omega)) (fun x hx => (hlab x hx).mono (Nat.zero_le _) (by omega)) (fun x hx => (hown x hx).mono (Nat.zero_le _) (by omega))) ?_
   rintro _ w15 ⟨E16, k14, F14, rfl, hk14⟩
   have lo_F14 : ∀ x, F14 x → w8.heap.size ≤ x := fun x hx => (hk14.lt x hx).1
   have dj17 : ¬ F14 b3 := fun hf => by have := lo_F14 _ hf; have := hB5.lt; omega
   have E16 := grown_of_below E16
   have z_w15 := E16.size
   have hr := hr.keep0 E16
   have hlab : ∀ x9 ∈ (L.map Prod.fst), RdC w15 0 w.heap.size 1 x9.1 x9.2.length (x9.2.map u16v) := fun x9 hx9 => (hlab x9 hx9).keep0 E16
   have hown : ∀ x9 ∈ (L.map Prod.snd), RdC w15 0 w.heap.size 1 x9.1 x9.2.length (x9.2.map u16v) := fun x9 hx9 => (hown x9 hx9).keep0 E16
   have hB5 := hB5.keep0 E16
   have hb := below_step0 hb E16 hb.size
   have hk14 : KernR w15 w.heap.size k14 (L.map ksOf) ([] : List (List UInt8 × Int)) F14 := hk14.mono (by omega)
   have ok_hk14 : SOk (L.map ksOf) := (cfg_ok k16).2.2.2.2
   refine op_move (ev_hit hN rfl) ?_
   refine op_extract (ev_hit hN rfl) rfl ?_
   refine op_extract (ev_hit hN rfl) rfl ?_
   refine op_assign (ev_hit hN rfl) ?_
   refine op_assign (ev_hit hN rfl) ?_
   refine reg_nil ?_
   refine hK13 _ _ ?_
   refine seq_any fun K18 hK18 => ?_
   refine one_reg ?_
   refine op_loadA (cs := [vL, (Value.int .i64 q)]) agg59 rfl (ev_hit hN rfl) (fun j u hu => by rw [Nat.zero_add]; exact hB5.cell hu) ?_
   refine op_fn (vs := [(Value.agg #[vL, (Value.int .i64 q)])]) ok36 ⟨(ev_hit hN rfl), trivial⟩ (newDBT k16 (L := L) (q := q) hL (by assumption) (hr.mono (Nat.zero_le _) (by omega)) (fun x hx => (hlab x hx).mono (Nat.zero_le _) (by omega)) (fun x hx => (hown x hx).mono (Nat.zero_le _) (by omega))) ?_
   rintro _ w20 ⟨E21, d19, F19, rfl, hdb19⟩
   have lo_F19 : ∀ x, F19 x → w15.heap.size ≤ x := fun x hx => (hdb19.lt x hx).1
   have dj22 : ¬ F19 b3 := fun hf => by have := lo_F19 _ hf; have := hB5.lt; omega
   have dj23 : Dj F14 F19 := Dj.fresh (fun k hk => (hk14.lt k hk).2) lo_F19
   have E21 := grown_of_below E21
   have z_w20 := E21.size
   have hr := hr.keep0 E21
   have hlab : ∀ x9 ∈ (L.map Prod.fst), RdC w20 0 w.heap.size 1 x9.1 x9.2.length (x9.2.map u16v) := fun x9 hx9 => (hlab x9 hx9).keep0 E21
   have hown : ∀ x9 ∈ (L.map Prod.snd), RdC w20 0 w.heap.size 1 x9.1 x9.2.length (x9.2.map u16v) := fun x9 hx9 => (hown x9 hx9).keep0 E21
   have hB5 := hB5.keep0 E21
   have hk14 := hk14.keepG (Gr.of0 E21 NoB) (fun _ _ h => h)
   have hb := below_step0 hb E21 hb.size
   have hdb19 : DbR w20 w.heap.size d19 (L.map ksOf) ([] : List (List UInt16 × Int)) F19 := hdb19.mono (by omega)
   refine op_move (ev_hit hN rfl) ?_
   refine op_extract (ev_hit hN rfl) rfl ?_
   refine op_extract (ev_hit hN rfl) rfl ?_
   refine op_assign (ev_hit hN rfl) ?_
   refine op_assign (ev_hit hN rfl) ?_
   refine reg_nil ?_
   refine hK18 _ _ ?_
   refine seq_any fun K24 hK24 => ?_
   refine seq_any fun K25 hK25 => ?_
   refine one_reg ?_
   refine op_move (ev_hit hN rfl) ?_
   refine op_move (ev_hit hN rfl) ?_
   refine op_bin (v := .bool false) (ev_hit hN rfl) (ev_hit hN rfl) (by rw [binOp_neq]; rfl) ?_
   refine op_move (ev_hit hN rfl) ?_
   refine g_true (j := 3) (dj := 27) (b := false) rfl rfl rfl (ev_hit hN rfl) ?_
   refine op_move (ev_hit hN rfl) ?_
   refine g_true (j := 3) (dj := 27) (b := false) rfl rfl rfl (ev_hit hN rfl) ?_
   refine op_peq_some ptrt50 (ev_hit hN rfl) rfl ?_
   refine g_true (j := 3) (dj := 27) (b := false) rfl rfl rfl (ev_hit hN rfl) ?_
   refine op_move (ev_hit hN rfl) ?_
   refine g_true (j := 3) (dj := 27) (b := false) rfl rfl rfl (ev_hit hN rfl) ?_
   refine op_peq_some ptrt65 (ev_hit hN rfl) rfl ?_
   refine g_true (j := 3) (dj := 27) (b := false) rfl rfl rfl (ev_hit hN rfl) ?_
   refine op_neb Try.underlying4 (ev_hit hN rfl) (ev_hit hN rfl) ?_
   refine op_pick_f (ev_hit hN rfl) (ev_hit hN rfl) ?_
   refine reg_nil ?_
   refine hK25 _ _ ?_
   refine wp_cond_false (ev_hit hN rfl) ?_
   refine wp_skip ?_
   refine hK24 _ _ ?_
   refine seq_any fun K26 hK26 => ?_
   refine seq_any fun K27 hK27 => ?_
   refine one_reg ?_
   obtain ⟨mp, sv9, tv, C, T9, F0S, FT, hdd, hM9, hxd, hO9, hS9, hOT, hT9, hF9⟩ := hdb19
   clear hOT hT9
   have hC9 := hS9.1
   refine op_assign rfl ?_
   refine reg_nil ?_
   refine hK27 _ _ ?_
   refine wp_block ?_
   refine loop_m (fun mz_ az_ w' => ∃ (i : Nat), mz_ = (List.map ksOf L).length - i ∧ (az_.tmps.getD 3 undef = (ptr k14 0)) ∧ (az_.tmps.getD 5 undef = (ptr d19 0)) ∧ (az_.tmps.getD 7 undef = (Value.int .i64 ((i : Nat) : Int))) ∧ (i ≤ (List.map ksOf L).length) ∧ (Below w.heap.size w w') ∧ (w20.heap.size ≤ w'.heap.size) ∧ (RdC w' 0 w.heap.size 2 vL L.length (L.flatMap cells2)) ∧ (∀ x9 ∈ (L.map Prod.fst), RdC w' 0 w.heap.size 1 x9.1 x9.2.length (x9.2.map u16v)) ∧ (∀ x9 ∈ (L.map Prod.snd), RdC w' 0 w.heap.size 1 x9.1 x9.2.length (x9.2.map u16v)) ∧ (Bx w' b3 59 [vL, (Value.int .i64 q)]) ∧ (KernR w' w.heap.size k14 (L.map ksOf) ([] : List (List UInt8 × Int)) F14) ∧ (Bx w' d19 72 [mp, sv9, tv]) ∧ (Own w' w.heap.size 75 4 sv9 (L.map ksOf).length (C.flatMap cellsD)) ∧ (DSAll w' w.heap.size (L.map ksOf) C F0S)) _ hN hd ⟨0, rfl, (sl_hit hN rfl), (sl_hit hN rfl), (sl_hit hN rfl), (Nat.zero_le _), hb, (Nat.le_refl _), hr, hlab, hown, hB5, hk14, hxd, hO9, hS9⟩ ?_
   rintro _ a28 w28 hN28 hd28 ⟨i, rfl, s28_3, s28_5, s28_7, hi, hb, zl_w28, hr, hlab, hown, hB5, hk14, hxd, hO9, hS9⟩
   have z_w28 := hb.size
   refine seq_any fun K29 hK29 => ?_
   refine seq_any fun K30 hK30 => ?_
   refine one_reg ?_
   refine op_move (ev_base hN28 rfl s28_5) ?_
   refine op_pne_some ptrt65 (ev_hit hN28 rfl) rfl ?_
   refine op_move (ev_hit hN28 rfl) ?_
   refine g_true (j := 2) (dj := 36) (b := true) rfl rfl rfl (ev_hit hN28 rfl) ?_
   refine op_move (ev_base hN28 rfl s28_7) ?_
   refine g_true (j := 2) (dj := 36) (b := true) rfl rfl rfl (ev_hit hN28 rfl) ?_
   refine op_move (ev_base hN28 rfl s28_5) ?_
   refine g_true (j := 2) (dj := 36) (b := true) rfl rfl rfl (ev_hit hN28 rfl) ?_
   refine op_nil (ev_hit hN28 rfl) ?_
   refine g_true (j := 2) (dj := 36) (b := true) rfl rfl rfl (ev_hit hN28 rfl) ?_
   refine op_field fld72_1 (ev_hit hN28 rfl) ?_
   refine g_true (j := 2) (dj := 36) (b := true) rfl rfl rfl (ev_hit hN28 rfl) ?_
   refine op_load1 (v := sv9) one69 (ev_hit hN28 rfl) (hxd.cell rfl) ?_
   refine g_true (j := 2) (dj := 36) (b := true) rfl rfl rfl (ev_hit hN28 rfl) ?_
   refine op_len_rd Try.underlying69 (ev_hit hN28 rfl) hO9.rdw ?_
   refine g_true (j := 2) (dj := 36) (b := true) rfl rfl rfl (ev_hit hN28 rfl) ?_
   refine op_lss (ev_hit hN28 rfl) (ev_hit hN28 rfl) (fun c43 => ?_) (fun c43 => ?_)
   · -- 43T
    refine op_pick_t (ev_hit hN28 rfl) (ev_hit hN28 rfl) ?_
    refine reg_nil ?_
    refine hK30 _ _ ?_
    refine wp_cond_true (ev_hit hN28 rfl) ?_
    refine wp_skip ?_
    refine hK29 _ _ ?_
    refine seq_any fun K31 hK31 => ?_
    refine wp_block ?_
    refine seq_any fun K32 hK32 => ?_
    have hi33 := hS9.2.1 i (by omega)
    have hd33_0 := hi33.1
    have hd33_1 := hi33.2.1
    have hn6 := ok_hk14.1
    have ha33 := at_nat (S := (L.map ksOf)) (i := i) (by omega)
    have hm33 := (ok_hk14.at (i : Int))
    have hml33 := mayL_len hm33.1
    have hmo33 := mayL_len hm33.2.1
    rw [ha33.1] at hml33 hmo33
    have hml33_ := mayL_len hm33.1
    have hmo33_ := mayL_len hm33.2.1
    rcases Bool.eq_false_or_eq_true ((decide ((atS (L.map ksOf) ((i : Nat) : Int)).label = ((L.map ksOf).getD i default).label))) with g58 | g58
    · -- 58T
     refine reg_split (hd := [_, _, _, _, _, _, _, _, _, _, _, _, _, _, _, _, _, _, _, _, _, _, _, _, _]) (tl := _) 25 mixed (by kernel_rfl) rfl rfl ?_
     refine any_quiet (Φ := phiL [(fun uz _ => uz = (ptr k14 0)), (fun uz _ => uz = (Value.int .i64 ((i : Nat) : Int))), (fun uz w' => ∃ (v34 : Value), uz = v34 ∧ Own w' w.heap.size 46 1 v34 (atS (L.map ksOf) ((i : Nat) : Int)).label.length ((atS (L.map ksOf) ((i : Nat) : Int)).label.map u16v)), (fun uz _ => uz = (ptr d19 0)), (fun uz _ => uz = (ptr d19 0)), (fun uz _ => uz = (ptr d19 1)), (fun uz _ => uz = sv9), (fun uz _ => uz = (Value.int .i64 ((i : Nat) : Int))), (fun uz w' => ∃ (b39 : (Nat)) (o40 : (Nat)), uz = (ptr b39 o40) ∧ PtC w' b39 (b39 + 1) b39 o40 [(C.getD i default).la, (C.getD i default).ow, (C.getD i default).po, (Value.bool false)]), (fun uz w' => ∃ (y34 : (Nat)) (y35 : (Nat)), uz = (ptr y34 (y35 + 0)) ∧ PtC w' y34 (y34 + 1) y34 y35 [(C.getD i default).la, (C.getD i default).ow, (C.getD i default).po, (Value.bool false)]), (fun uz _ => uz = (C.getD i default).la), (fun uz _ => uz = (Value.bool true)), (fun uz _ => uz = (Value.bool false)), (fun uz _ => uz = (Value.bool false)), (fun uz _ => uz = (ptr k14 0)), (fun uz _ => uz = (Value.int .i64 ((i : Nat) : Int))), (fun uz w' => ∃ (v45 : Value), uz = v45 ∧ Own w' w.heap.size 46 1 v45 (atS (L.map ksOf) ((i : Nat) : Int)).owns.length ((atS (L.map ksOf) ((i : Nat) : Int)).owns.map u16v)), (fun uz _ => uz = (ptr d19 0)), (fun uz _ => uz = (ptr d19 0)), (fun uz _ => uz = (ptr d19 1)), (fun uz _ => uz = sv9), (fun uz _ => uz = (Value.int .i64 ((i : Nat) : Int))), (fun uz w' => ∃ (b51 : (Nat)) (o52 : (Nat)), uz = (ptr b51 o52) ∧ PtC w' b51 (b51 + 1) b51 o52 [(C.getD i default).la, (C.getD i default).ow, (C.getD i default).po, (Value.bool false)]), (fun uz w' => ∃ (y37 : (Nat)) (y38 : (Nat)), uz = (ptr y37 (y38 + 1)) ∧ PtC w' y37 (y37 + 1) y37 y38 [(C.getD i default).la, (C.getD i default).ow, (C.getD i default).po, (Value.bool false)]), (fun uz _ => uz = (C.getD i default).ow)]) (by kernel_rfl) (by kernel_rfl) (by kernel_rfl) hN28 (StL.get (StL.eq (StL.eq (StL.cons (fun u w1 w2 E h => by obtain ⟨x0, hv, f0⟩ := h; exact ⟨x0, hv, f0.keep0 E⟩) (StL.eq (StL.eq (StL.eq (StL.eq (StL.eq (StL.cons (fun u w1 w2 E h => by obtain ⟨x0, x1, hv, f0⟩ := h; exact ⟨x0, x1, hv, f0.keep0 E⟩) (StL.cons (fun u w1 w2 E h => by obtain ⟨x0, x1, hv, f0⟩ := h; exact ⟨x0, x1, hv, f0.keep0 E⟩) (StL.eq (StL.eq (StL.eq (StL.eq (StL.eq (StL.eq (StL.cons (fun u w1 w2 E h => by obtain ⟨x0, hv, f0⟩ := h; exact ⟨x0, hv, f0.keep0 E⟩) (StL.eq (StL.eq (StL.eq (StL.eq (StL.eq (StL.cons (fun u w1 w2 E h => by obtain ⟨x0, x1, hv, f0⟩ := h; exact ⟨x0, x1, hv, f0.keep0 E⟩) (StL.cons (fun u w1 w2 E h => by obtain ⟨x0, x1, hv, f0⟩ := h; exact ⟨x0, x1, hv, f0.keep0 E⟩) (StL.eq (StL.nil _))))))))))))))))))))))))))) (ObL.get (s := 25) (ObL.cons ?_ (ObL.cons ?_ (ObL.cons ?_ (ObL.cons ?_ (ObL.cons ?_ (ObL.cons ?_ (ObL.cons ?_ (ObL.cons ?_ (ObL.cons ?_ (ObL.cons ?_ (ObL.cons ?_ (ObL.cons ?_ (ObL.cons ?_ (ObL.cons ?_ (ObL.cons ?_ (ObL.cons ?_ (ObL.cons ?_ (ObL.cons ?_ (ObL.cons ?_ (ObL.cons ?_ (ObL.cons ?_ (ObL.cons ?_ (ObL.cons ?_ (ObL.cons ?_ (ObL.cons ?_ (ObL.nil)))))))))))))))))))))))))) rfl) ?_
     ·
      intro aA wA hNA hRA hbsA hdpA
      have qA_3 := (hbsA 3 rfl).trans (sl_base hN28 rfl s28_3)
      refine op_move (ev_base hNA rfl qA_3) ?_
      exact obN_end rfl rfl (grown_refl _ _)
     ·
      intro aA wA hNA hRA hbsA hdpA
      have qA_7 := (hbsA 7 rfl).trans (sl_base hN28 rfl s28_7)
      refine op_move (ev_base hNA rfl qA_7) ?_
      exact obN_end rfl rfl (grown_refl _ _)
     ·
      intro aA wA hNA hRA hbsA hdpA
      have hRA : w28.grownBy wA none := hRA
      have z_wA := hRA.size
      have hr := hr.keep0 hRA
      have hlab : ∀ x9 ∈ (L.map Prod.fst), RdC wA 0 w.heap.size 1 x9.1 x9.2.length (x9.2.map u16v) := fun x9 hx9 => (hlab x9 hx9).keep0 hRA
      have hown : ∀ x9 ∈ (L.map Prod.snd), RdC wA 0 w.heap.size 1 x9.1 x9.2.length (x9.2.map u16v) := fun x9 hx9 => (hown x9 hx9).keep0 hRA
      have hB5 := hB5.keep0 hRA
      have hk14 := hk14.keepG (Gr.of0 hRA NoB) (fun _ _ h => h)
      have hxd := hxd.keep0 hRA
      have hO9 := hO9.keep0 hRA
      have hS9 := hS9.keepG (Gr.of0 hRA NoB) (fun _ _ h => h)
      have hd33_0 := hd33_0.keep0 hRA
      have hd33_1 := hd33_1.keep0 hRA
      have hb := below_step0 hb hRA hb.size
      have qA_47 : Sl aA 47 (ptr k14 0) := hdpA 0 _ 47 (by kernel_rfl) rfl rfl
      have qA_48 : Sl aA 48 (Value.int .i64 ((i : Nat) : Int)) := hdpA 1 _ 48 (by kernel_rfl) rfl rfl
      clear hbsA hdpA
      refine op_fn (vs := [(ptr k14 0), (Value.int .i64 ((i : Nat) : Int))]) ok37 ⟨(ev_base hNA rfl qA_47), ⟨(ev_base hNA rfl qA_48), trivial⟩⟩ (LabelR ((i : Nat) : Int) (by omega) ok_hk14.1 hk14 ok_hk14.lab) ?_
      rintro v40 w41 ⟨E42, hO40⟩
      have dj43 : Dj F14 (Bl v40) := Dj.fresh (fun k hk => (hk14.lt k hk).2) (fun k hk => (hO40.lt k hk).1)
      have dj44 : Dj F0S (Bl v40) := Dj.fresh (fun k hk => (hS9.lt k hk).2) (fun k hk => (hO40.lt k hk).1)
      have E42 := grown_of_below E42
      have z_w41 := E42.size
      have hr := hr.keep0 E42
      have hlab : ∀ x9 ∈ (L.map Prod.fst), RdC w41 0 w.heap.size 1 x9.1 x9.2.length (x9.2.map u16v) := fun x9 hx9 => (hlab x9 hx9).keep0 E42
      have hown : ∀ x9 ∈ (L.map Prod.snd), RdC w41 0 w.heap.size 1 x9.1 x9.2.length (x9.2.map u16v) := fun x9 hx9 => (hown x9 hx9).keep0 E42
      have hB5 := hB5.keep0 E42
      have hk14 := hk14.keepG (Gr.of0 E42 NoB) (fun _ _ h => h)
      have hxd := hxd.keep0 E42
      have hO9 := hO9.keep0 E42
      have hS9 := hS9.keepG (Gr.of0 E42 NoB) (fun _ _ h => h)
      have hd33_0 := hd33_0.keep0 E42
      have hd33_1 := hd33_1.keep0 E42
      have hb := below_step0 hb E42 hb.size
      have hO40 := hO40.mono (base' := w.heap.size) (by omega)
      have hl40 := mayL_len (ok_hk14.at ((i : Nat) : Int)).1
      exact obN_end rfl ⟨v40, rfl, hO40⟩ (E42)
     ·
      intro aA wA hNA hRA hbsA hdpA
      have qA_5 := (hbsA 5 rfl).trans (sl_base hN28 rfl s28_5)
      refine op_move (ev_base hNA rfl qA_5) ?_
      exact obN_end rfl rfl (grown_refl _ _)
     ·
      intro aA wA hNA hRA hbsA hdpA
      have qA_50 : Sl aA 50 (ptr d19 0) := hdpA 3 _ 50 (by kernel_rfl) rfl rfl
      refine op_nil (ev_base hNA rfl qA_50) ?_
      exact obN_end rfl rfl (grown_refl _ _)
     ·
      intro aA wA hNA hRA hbsA hdpA
      have qA_51 : Sl aA 51 (ptr d19 0) := hdpA 4 _ 51 (by kernel_rfl) rfl rfl
      refine op_field fld72_1 (ev_base hNA rfl qA_51) ?_
      exact obN_end rfl rfl (grown_refl _ _)
     ·
      intro aA wA hNA hRA hbsA hdpA
      have hRA : w28.grownBy wA none := hRA
      have z_wA := hRA.size
      have hr := hr.keep0 hRA
      have hlab : ∀ x9 ∈ (L.map Prod.fst), RdC wA 0 w.heap.size 1 x9.1 x9.2.length (x9.2.map u16v) := fun x9 hx9 => (hlab x9 hx9).keep0 hRA
      have hown : ∀ x9 ∈ (L.map Prod.snd), RdC wA 0 w.heap.size 1 x9.1 x9.2.length (x9.2.map u16v) := fun x9 hx9 => (hown x9 hx9).keep0 hRA
      have hB5 := hB5.keep0 hRA
      have hk14 := hk14.keepG (Gr.of0 hRA NoB) (fun _ _ h => h)
      have hxd := hxd.keep0 hRA
      have hO9 := hO9.keep0 hRA
      have hS9 := hS9.keepG (Gr.of0 hRA NoB) (fun _ _ h => h)
      have hd33_0 := hd33_0.keep0 hRA
      have hd33_1 := hd33_1.keep0 hRA
      have hb := below_step0 hb hRA hb.size
      have qA_52 : Sl aA 52 (ptr d19 1) := hdpA 5 _ 52 (by kernel_rfl) rfl rfl
      clear hbsA hdpA
      refine op_load1 (v := sv9) one69 (ev_base hNA rfl qA_52) (hxd.cell rfl) ?_
      exact obN_end rfl rfl (grown_refl _ _)
     ·
      intro aA wA hNA hRA hbsA hdpA
      have qA_7 := (hbsA 7 rfl).trans (sl_base hN28 rfl s28_7)
      refine op_move (ev_base hNA rfl qA_7) ?_
      exact obN_end rfl rfl (grown_refl _ _)
     ·
      intro aA wA hNA hRA hbsA hdpA
      have hRA : w28.grownBy wA none := hRA
      have z_wA := hRA.size
      have hr := hr.keep0 hRA
      have hlab : ∀ x9 ∈ (L.map Prod.fst), RdC wA 0 w.heap.size 1 x9.1 x9.2.length (x9.2.map u16v) := fun x9 hx9 => (hlab x9 hx9).keep0 hRA
      have hown : ∀ x9 ∈ (L.map Prod.snd), RdC wA 0 w.heap.size 1 x9.1 x9.2.length (x9.2.map u16v) := fun x9 hx9 => (hown x9 hx9).keep0 hRA
      have hB5 := hB5.keep0 hRA
      have hk14 := hk14.keepG (Gr.of0 hRA NoB) (fun _ _ h => h)
      have hxd := hxd.keep0 hRA
      have hO9 := hO9.keep0 hRA
      have hS9 := hS9.keepG (Gr.of0 hRA NoB) (fun _ _ h => h)
      have hd33_0 := hd33_0.keep0 hRA
      have hd33_1 := hd33_1.keep0 hRA
      have hb := below_step0 hb hRA hb.size
      have qA_53 : Sl aA 53 sv9 := hdpA 6 _ 53 (by kernel_rfl) rfl rfl
      have qA_54 : Sl aA 54 (Value.int .i64 ((i : Nat) : Int)) := hdpA 7 _ 54 (by kernel_rfl) rfl rfl
      clear hbsA hdpA
      refine op_index_rd slt69 (ev_base hNA rfl qA_53) hO9.rdw (ev_base hNA rfl qA_54) (by omega) (by omega) ?_
      intro b45 o46 h0b45 h1b45 hc47
      have hp48 : PtC wA b45 (b45 + 1) b45 o46 [(C.getD i default).la, (C.getD i default).ow, (C.getD i default).po, (Value.bool false)] := ⟨by omega, by omega, fun j u hu => hc47 j u (by have := (List.getElem?_eq_some_iff.1 hu).1; simpa using this) ((el_ds (i := i) (by omega) (by omega)) j u hu)⟩
      exact obN_end rfl ⟨b45, o46, rfl, hp48⟩ (grown_refl _ _)
     ·
      intro aA wA hNA hRA hbsA hdpA
      obtain ⟨b39, o40, qA_55, hp42⟩ := hdpA 8 _ 55 (by kernel_rfl) rfl rfl
      have hp42 : PtC wA b39 (b39 + 1) b39 o40 [(C.getD i default).la, (C.getD i default).ow, (C.getD i default).po, (Value.bool false)] := hp42
      refine op_field fld75_0 (ev_base hNA rfl qA_55) ?_
      exact obN_end rfl ⟨b39, o40, rfl, hp42⟩ (grown_refl _ _)
     ·
      intro aA wA hNA hRA hbsA hdpA
      have hRA : w28.grownBy wA none := hRA
      have z_wA := hRA.size
      have hr := hr.keep0 hRA
      have hlab : ∀ x9 ∈ (L.map Prod.fst), RdC wA 0 w.heap.size 1 x9.1 x9.2.length (x9.2.map u16v) := fun x9 hx9 => (hlab x9 hx9).keep0 hRA
      have hown : ∀ x9 ∈ (L.map Prod.snd), RdC wA 0 w.heap.size 1 x9.1 x9.2.length (x9.2.map u16v) := fun x9 hx9 => (hown x9 hx9).keep0 hRA
      have hB5 := hB5.keep0 hRA
      have hk14 := hk14.keepG (Gr.of0 hRA NoB) (fun _ _ h => h)
      have hxd := hxd.keep0 hRA
      have hO9 := hO9.keep0 hRA
      have hS9 := hS9.keepG (Gr.of0 hRA NoB) (fun _ _ h => h)
      have hd33_0 := hd33_0.keep0 hRA
      have hd33_1 := hd33_1.keep0 hRA
      have hb := below_step0 hb hRA hb.size
      obtain ⟨y34, y35, qA_56, hy36⟩ := hdpA 9 _ 56 (by kernel_rfl) rfl rfl
      have hy36 : PtC wA y34 (y34 + 1) y34 y35 [(C.getD i default).la, (C.getD i default).ow, (C.getD i default).po, (Value.bool false)] := hy36
      clear hbsA hdpA
      refine op_load1 (v := (C.getD i default).la) one54 (ev_base hNA rfl qA_56) (hy36.2.2 0 _ rfl) ?_
      exact obN_end rfl rfl (grown_refl _ _)
     ·
      intro aA wA hNA hRA hbsA hdpA
      have hRA : w28.grownBy wA none := hRA
      have z_wA := hRA.size
      have hr := hr.keep0 hRA
      have hlab : ∀ x9 ∈ (L.map Prod.fst), RdC wA 0 w.heap.size 1 x9.1 x9.2.length (x9.2.map u16v) := fun x9 hx9 => (hlab x9 hx9).keep0 hRA
      have hown : ∀ x9 ∈ (L.map Prod.snd), RdC wA 0 w.heap.size 1 x9.1 x9.2.length (x9.2.map u16v) := fun x9 hx9 => (hown x9 hx9).keep0 hRA
      have hB5 := hB5.keep0 hRA
      have hk14 := hk14.keepG (Gr.of0 hRA NoB) (fun _ _ h => h)
      have hxd := hxd.keep0 hRA
      have hO9 := hO9.keep0 hRA
      have hS9 := hS9.keepG (Gr.of0 hRA NoB) (fun _ _ h => h)
      have hd33_0 := hd33_0.keep0 hRA
      have hd33_1 := hd33_1.keep0 hRA
      have hb := below_step0 hb hRA hb.size
      obtain ⟨v34, qA_49, hO34⟩ := hdpA 2 _ 49 (by kernel_rfl) rfl rfl
      have hO34 : Own wA w.heap.size 46 1 v34 (atS (L.map ksOf) ((i : Nat) : Int)).label.length ((atS (L.map ksOf) ((i : Nat) : Int)).label.map u16v) := hO34
      have qA_57 : Sl aA 57 (C.getD i default).la := hdpA 10 _ 57 (by kernel_rfl) rfl rfl
      clear hbsA hdpA
      refine op_fn (vs := [v34, (C.getD i default).la]) ok34 ⟨(ev_base hNA rfl qA_49), ⟨(ev_base hNA rfl qA_57), trivial⟩⟩ (sameL_ret (atS (L.map ksOf) ((i : Nat) : Int)).label ((L.map ksOf).getD i default).label _ _ _ (by first | assumption | omega | (simp only [List.length_append, List.length_cons, List.length_nil, List.length_drop, List.length_take]; omega) | (dsimp only; omega) | decide | (simp [keyV, be8_len]; done)) (by first | assumption | omega | (simp only [List.length_append, List.length_cons, List.length_nil, List.length_drop, List.length_take]; omega) | (dsimp only; omega) | decide | (simp [keyV, be8_len]; done)) (show RdC wA 0 wA.heap.size 1 v34 (atS (L.map ksOf) ((i : Nat) : Int)).label.length ((atS (L.map ksOf) ((i : Nat) : Int)).label.map u16v) from by have hh : RdC wA 0 wA.heap.size 1 _ _ _ := (hO34.rdw.mono (L' := 0) (B' := wA.heap.size) (Nat.zero_le _) (by omega)); first | exact hh | exact hh.cast (by first | omega | (simp; try omega)) (by first | rfl | simp [u16v])) (show RdC wA 0 wA.heap.size 1 (C.getD i default).la ((L.map ksOf).getD i default).label.length (((L.map ksOf).getD i default).label.map u16v) from by have hh : RdC wA 0 wA.heap.size 1 _ _ _ := (hd33_0.rdw.mono (L' := 0) (B' := wA.heap.size) (Nat.zero_le _) (by omega)); first | exact hh | exact hh.cast (by first | omega | (simp; try omega)) (by first | rfl | simp [u16v]))) ?_
      rintro _ w49 ⟨E50, rfl⟩
      have E50 := grown_of_below E50
      have z_w49 := E50.size
      have hr := hr.keep0 E50
      have hlab : ∀ x9 ∈ (L.map Prod.fst), RdC w49 0 w.heap.size 1 x9.1 x9.2.length (x9.2.map u16v) := fun x9 hx9 => (hlab x9 hx9).keep0 E50
      have hown : ∀ x9 ∈ (L.map Prod.snd), RdC w49 0 w.heap.size 1 x9.1 x9.2.length (x9.2.map u16v) := fun x9 hx9 => (hown x9 hx9).keep0 E50
      have hB5 := hB5.keep0 E50
      have hk14 := hk14.keepG (Gr.of0 E50 NoB) (fun _ _ h => h)
      have hxd := hxd.keep0 E50
      have hO9 := hO9.keep0 E50
      have hS9 := hS9.keepG (Gr.of0 E50 NoB) (fun _ _ h => h)
      have hd33_0 := hd33_0.keep0 E50
      have hd33_1 := hd33_1.keep0 E50
      have hO34 := hO34.keep0 E50
      have hb := below_step0 hb E50 hb.size
      rw [g58]
      exact obN_end rfl rfl (E50)
     ·
      intro aA wA hNA hRA hbsA hdpA
      have qA_58 : Sl aA 58 (Value.bool true) := hdpA 11 _ 58 (by kernel_rfl) rfl rfl
      refine op_not (ev_base hNA rfl qA_58) ?_
      exact obN_end rfl rfl (grown_refl _ _)
     ·
      intro aA wA hNA hRA hbsA hdpA
      have qA_59 : Sl aA 59 (Value.bool false) := hdpA 12 _ 59 (by kernel_rfl) rfl rfl
      refine op_move (ev_base hNA rfl qA_59) ?_
      exact obN_end rfl rfl (grown_refl _ _)
     ·
      intro aA wA hNA hRA hbsA hdpA
      have qA_3 := (hbsA 3 rfl).trans (sl_base hN28 rfl s28_3)
      have qA_60 : Sl aA 60 (Value.bool false) := hdpA 13 _ 60 (by kernel_rfl) rfl rfl
      refine g_true (j := 13) (dj := 60) (b := false) rfl rfl rfl (ev_base hNA rfl qA_60) ?_
      refine op_move (ev_base hNA rfl qA_3) ?_
      exact obN_end rfl rfl (grown_refl _ _)
     ·
      intro aA wA hNA hRA hbsA hdpA
      have qA_7 := (hbsA 7 rfl).trans (sl_base hN28 rfl s28_7)
      have qA_60 : Sl aA 60 (Value.bool false) := hdpA 13 _ 60 (by kernel_rfl) rfl rfl
      refine g_true (j := 13) (dj := 60) (b := false) rfl rfl rfl (ev_base hNA rfl qA_60) ?_
      refine op_move (ev_base hNA rfl qA_7) ?_
      exact obN_end rfl rfl (grown_refl _ _)
     ·
      intro aA wA hNA hRA hbsA hdpA
      have hRA : w28.grownBy wA none := hRA
      have z_wA := hRA.size
      have hr := hr.keep0 hRA
      have hlab : ∀ x9 ∈ (L.map Prod.fst), RdC wA 0 w.heap.size 1 x9.1 x9.2.length (x9.2.map u16v) := fun x9 hx9 => (hlab x9 hx9).keep0 hRA
      have hown : ∀ x9 ∈ (L.map Prod.snd), RdC wA 0 w.heap.size 1 x9.1 x9.2.length (x9.2.map u16v) := fun x9 hx9 => (hown x9 hx9).keep0 hRA
      have hB5 := hB5.keep0 hRA
      have hk14 := hk14.keepG (Gr.of0 hRA NoB) (fun _ _ h => h)
      have hxd := hxd.keep0 hRA
      have hO9 := hO9.keep0 hRA
      have hS9 := hS9.keepG (Gr.of0 hRA NoB) (fun _ _ h => h)
      have hd33_0 := hd33_0.keep0 hRA
      have hd33_1 := hd33_1.keep0 hRA
      have hb := below_step0 hb hRA hb.size
      have qA_61 : Sl aA 61 (ptr k14 0) := hdpA 14 _ 61 (by kernel_rfl) rfl rfl
      have qA_62 : Sl aA 62 (Value.int .i64 ((i : Nat) : Int)) := hdpA 15 _ 62 (by kernel_rfl) rfl rfl
      have qA_60 : Sl aA 60 (Value.bool false) := hdpA 13 _ 60 (by kernel_rfl) rfl rfl
      clear hbsA hdpA
      refine g_true (j := 13) (dj := 60) (b := false) rfl rfl rfl (ev_base hNA rfl qA_60) ?_
      refine op_fn (vs := [(ptr k14 0), (Value.int .i64 ((i : Nat) : Int))]) ok38 ⟨(ev_base hNA rfl qA_61), ⟨(ev_base hNA rfl qA_62), trivial⟩⟩ (OwnsR ((i : Nat) : Int) (by omega) ok_hk14.1 hk14 ok_hk14.own) ?_
      rintro v51 w52 ⟨E53, hO51⟩
      have dj54 : Dj F14 (Bl v51) := Dj.fresh (fun k hk => (hk14.lt k hk).2) (fun k hk => (hO51.lt k hk).1)
      have dj55 : Dj F0S (Bl v51) := Dj.fresh (fun k hk => (hS9.lt k hk).2) (fun k hk => (hO51.lt k hk).1)
      have E53 := grown_of_below E53
      have z_w52 := E53.size
      have hr := hr.keep0 E53
      have hlab : ∀ x9 ∈ (L.map Prod.fst), RdC w52 0 w.heap.size 1 x9.1 x9.2.length (x9.2.map u16v) := fun x9 hx9 => (hlab x9 hx9).keep0 E53
      have hown : ∀ x9 ∈ (L.map Prod.snd), RdC w52 0 w.heap.size 1 x9.1 x9.2.length (x9.2.map u16v) := fun x9 hx9 => (hown x9 hx9).keep0 E53
      have hB5 := hB5.keep0 E53
      have hk14 := hk14.keepG (Gr.of0 E53 NoB) (fun _ _ h => h)
      have hxd := hxd.keep0 E53
      have hO9 := hO9.keep0 E53
      have hS9 := hS9.keepG (Gr.of0 E53 NoB) (fun _ _ h => h)
      have hd33_0 := hd33_0.keep0 E53
      have hd33_1 := hd33_1.keep0 E53
      have hb := below_step0 hb E53 hb.size
      have hO51 := hO51.mono (base' := w.heap.size) (by omega)
      have hl51 := mayL_len (ok_hk14.at ((i : Nat) : Int)).2.1
      exact obN_end rfl ⟨v51, rfl, hO51⟩ (E53)
     ·
      intro aA wA hNA hRA hbsA hdpA
      have qA_5 := (hbsA 5 rfl).trans (sl_base hN28 rfl s28_5)
      have qA_60 : Sl aA 60 (Value.bool false) := hdpA 13 _ 60 (by kernel_rfl) rfl rfl
      refine g_true (j := 13) (dj := 60) (b := false) rfl rfl rfl (ev_base hNA rfl qA_60) ?_
      refine op_move (ev_base hNA rfl qA_5) ?_
      exact obN_end rfl rfl (grown_refl _ _)
     ·
      intro aA wA hNA hRA hbsA hdpA
      have qA_64 : Sl aA 64 (ptr d19 0) := hdpA 17 _ 64 (by kernel_rfl) rfl rfl
      have qA_60 : Sl aA 60 (Value.bool false) := hdpA 13 _ 60 (by kernel_rfl) rfl rfl
      refine g_true (j := 13) (dj := 60) (b := false) rfl rfl rfl (ev_base hNA rfl qA_60) ?_
      refine op_nil (ev_base hNA rfl qA_64) ?_
      exact obN_end rfl rfl (grown_refl _ _)
     ·
      intro aA wA hNA hRA hbsA hdpA
      have qA_65 : Sl aA 65 (ptr d19 0) := hdpA 18 _ 65 (by kernel_rfl) rfl rfl
      have qA_60 : Sl aA 60 (Value.bool false) := hdpA 13 _ 60 (by kernel_rfl) rfl rfl
      refine g_true (j := 13) (dj := 60) (b := false) rfl rfl rfl (ev_base hNA rfl qA_60) ?_
      refine op_field fld72_1 (ev_base hNA rfl qA_65) ?_
      exact obN_end rfl rfl (grown_refl _ _)
     ·
      intro aA wA hNA hRA hbsA hdpA
      have hRA : w28.grownBy wA none := hRA
      have z_wA := hRA.size
      have hr := hr.keep0 hRA
      have hlab : ∀ x9 ∈ (L.map Prod.fst), RdC wA 0 w.heap.size 1 x9.1 x9.2.length (x9.2.map u16v) := fun x9 hx9 => (hlab x9 hx9).keep0 hRA
      have hown : ∀ x9 ∈ (L.map Prod.snd), RdC wA 0 w.heap.size 1 x9.1 x9.2.length (x9.2.map u16v) := fun x9 hx9 => (hown x9 hx9).keep0 hRA
      have hB5 := hB5.keep0 hRA
      have hk14 := hk14.keepG (Gr.of0 hRA NoB) (fun _ _ h => h)
      have hxd := hxd.keep0 hRA
      have hO9 := hO9.keep0 hRA
      have hS9 := hS9.keepG (Gr.of0 hRA NoB) (fun _ _ h => h)
      have hd33_0 := hd33_0.keep0 hRA
      have hd33_1 := hd33_1.keep0 hRA
      have hb := below_step0 hb hRA hb.size
      have qA_66 : Sl aA 66 (ptr d19 1) := hdpA 19 _ 66 (by kernel_rfl) rfl rfl
      have qA_60 : Sl aA 60 (Value.bool false) := hdpA 13 _ 60 (by kernel_rfl) rfl rfl
      clear hbsA hdpA
      refine g_true (j := 13) (dj := 60) (b := false) rfl rfl rfl (ev_base hNA rfl qA_60) ?_
      refine op_load1 (v := sv9) one69 (ev_base hNA rfl qA_66) (hxd.cell rfl) ?_
      exact obN_end rfl rfl (grown_refl _ _)
     ·
      intro aA wA hNA hRA hbsA hdpA
      have qA_7 := (hbsA 7 rfl).trans (sl_base hN28 rfl s28_7)
      have qA_60 : Sl aA 60 (Value.bool false) := hdpA 13 _ 60 (by kernel_rfl) rfl rfl
      refine g_true (j := 13) (dj := 60) (b := false) rfl rfl rfl (ev_base hNA rfl qA_60) ?_
      refine op_move (ev_base hNA rfl qA_7) ?_
      exact obN_end rfl rfl (grown_refl _ _)
     ·
      intro aA wA hNA hRA hbsA hdpA
      have hRA : w28.grownBy wA none := hRA
      have z_wA := hRA.size
      have hr := hr.keep0 hRA
      have hlab : ∀ x9 ∈ (L.map Prod.fst), RdC wA 0 w.heap.size 1 x9.1 x9.2.length (x9.2.map u16v) := fun x9 hx9 => (hlab x9 hx9).keep0 hRA
      have hown : ∀ x9 ∈ (L.map Prod.snd), RdC wA 0 w.heap.size 1 x9.1 x9.2.length (x9.2.map u16v) := fun x9 hx9 => (hown x9 hx9).keep0 hRA
      have hB5 := hB5.keep0 hRA
      have hk14 := hk14.keepG (Gr.of0 hRA NoB) (fun _ _ h => h)
      have hxd := hxd.keep0 hRA
      have hO9 := hO9.keep0 hRA
      have hS9 := hS9.keepG (Gr.of0 hRA NoB) (fun _ _ h => h)
      have hd33_0 := hd33_0.keep0 hRA
      have hd33_1 := hd33_1.keep0 hRA
      have hb := below_step0 hb hRA hb.size
      have qA_67 : Sl aA 67 sv9 := hdpA 20 _ 67 (by kernel_rfl) rfl rfl
      have qA_68 : Sl aA 68 (Value.int .i64 ((i : Nat) : Int)) := hdpA 21 _ 68 (by kernel_rfl) rfl rfl
      have qA_60 : Sl aA 60 (Value.bool false) := hdpA 13 _ 60 (by kernel_rfl) rfl rfl
      clear hbsA hdpA
      refine g_true (j := 13) (dj := 60) (b := false) rfl rfl rfl (ev_base hNA rfl qA_60) ?_
      refine op_index_rd slt69 (ev_base hNA rfl qA_67) hO9.rdw (ev_base hNA rfl qA_68) (by omega) (by omega) ?_
      intro b56 o57 h0b56 h1b56 hc58
      have hp59 : PtC wA b56 (b56 + 1) b56 o57 [(C.getD i default).la, (C.getD i default).ow, (C.getD i default).po, (Value.bool false)] := ⟨by omega, by omega, fun j u hu => hc58 j u (by have := (List.getElem?_eq_some_iff.1 hu).1; simpa using this) ((el_ds (i := i) (by omega) (by omega)) j u hu)⟩
      exact obN_end rfl ⟨b56, o57, rfl, hp59⟩ (grown_refl _ _)
     ·
      intro aA wA hNA hRA hbsA hdpA
      obtain ⟨b51, o52, qA_69, hp54⟩ := hdpA 22 _ 69 (by kernel_rfl) rfl rfl
      have hp54 : PtC wA b51 (b51 + 1) b51 o52 [(C.getD i default).la, (C.getD i default).ow, (C.getD i default).po, (Value.bool false)] := hp54
      have qA_60 : Sl aA 60 (Value.bool false) := hdpA 13 _ 60 (by kernel_rfl) rfl rfl
      refine g_true (j := 13) (dj := 60) (b := false) rfl rfl rfl (ev_base hNA rfl qA_60) ?_
      refine op_field fld75_1 (ev_base hNA rfl qA_69) ?_
      exact obN_end rfl ⟨b51, o52, rfl, hp54⟩ (grown_refl _ _)
     ·
      intro aA wA hNA hRA hbsA hdpA
      have hRA : w28.grownBy wA none := hRA
      have z_wA := hRA.size
      have hr := hr.keep0 hRA
      have hlab : ∀ x9 ∈ (L.map Prod.fst), RdC wA 0 w.heap.size 1 x9.1 x9.2.length (x9.2.map u16v) := fun x9 hx9 => (hlab x9 hx9).keep0 hRA
      have hown : ∀ x9 ∈ (L.map Prod.snd), RdC wA 0 w.heap.size 1 x9.1 x9.2.length (x9.2.map u16v) := fun x9 hx9 => (hown x9 hx9).keep0 hRA
      have hB5 := hB5.keep0 hRA
      have hk14 := hk14.keepG (Gr.of0 hRA NoB) (fun _ _ h => h)
      have hxd := hxd.keep0 hRA
      have hO9 := hO9.keep0 hRA
      have hS9 := hS9.keepG (Gr.of0 hRA NoB) (fun _ _ h => h)
      have hd33_0 := hd33_0.keep0 hRA
      have hd33_1 := hd33_1.keep0 hRA
      have hb := below_step0 hb hRA hb.size
      obtain ⟨y37, y38, qA_70, hy39⟩ := hdpA 23 _ 70 (by kernel_rfl) rfl rfl
      have hy39 : PtC wA y37 (y37 + 1) y37 y38 [(C.getD i default).la, (C.getD i default).ow, (C.getD i default).po, (Value.bool false)] := hy39
      have qA_60 : Sl aA 60 (Value.bool false) := hdpA 13 _ 60 (by kernel_rfl) rfl rfl
      clear hbsA hdpA
      refine g_true (j := 13) (dj := 60) (b := false) rfl rfl rfl (ev_base hNA rfl qA_60) ?_
      refine op_load1 (v := (C.getD i default).ow) one54 (ev_base hNA rfl qA_70) (hy39.2.2 1 _ rfl) ?_
      exact obN_end rfl rfl (grown_refl _ _)
     ·
      intro a60 w60 hN60 hd60 hbs60 hph60 E60
      have hd60 := hd60.trans hd28
      have s60_3 := (hbs60 3 rfl).trans (sl_base hN28 rfl s28_3)
      have s60_5 := (hbs60 5 rfl).trans (sl_base hN28 rfl s28_5)
      have s60_7 := (hbs60 7 rfl).trans (sl_base hN28 rfl s28_7)
      have s60_60 : Sl a60 60 (Value.bool false) := hph60 13 _ 60 rfl rfl
      obtain ⟨v45, s60_63, hO45⟩ := hph60 16 _ 63 rfl rfl
      have hO45 : Own w60 w.heap.size 46 1 v45 (atS (L.map ksOf) ((i : Nat) : Int)).owns.length ((atS (L.map ksOf) ((i : Nat) : Int)).owns.map u16v) := hO45
      have s60_71 : Sl a60 71 (C.getD i default).ow := hph60 24 _ 71 rfl rfl
      clear hbs60 hph60
      have E60 : w28.grownBy w60 none := E60
      have z_w60 := E60.size
      have hr := hr.keep0 E60
      have hlab : ∀ x9 ∈ (L.map Prod.fst), RdC w60 0 w.heap.size 1 x9.1 x9.2.length (x9.2.map u16v) := fun x9 hx9 => (hlab x9 hx9).keep0 E60
      have hown : ∀ x9 ∈ (L.map Prod.snd), RdC w60 0 w.heap.size 1 x9.1 x9.2.length (x9.2.map u16v) := fun x9 hx9 => (hown x9 hx9).keep0 E60
      have hB5 := hB5.keep0 E60
      have hk14 := hk14.keepG (Gr.of0 E60 NoB) (fun _ _ h => h)
      have hxd := hxd.keep0 E60
      have hO9 := hO9.keep0 E60
      have hS9 := hS9.keepG (Gr.of0 E60 NoB) (fun _ _ h => h)
      have hd33_0 := hd33_0.keep0 E60
      have hd33_1 := hd33_1.keep0 E60
      have hb := below_step0 hb E60 hb.size
      refine split_end ?_
      refine from_one (k' := 26) (by kernel_rfl) rfl rfl ?_
      refine g_true (j := 13) (dj := 60) (b := false) rfl rfl rfl (ev_base hN60 rfl s60_60) ?_
      refine op_fn (vs := [v45, (C.getD i default).ow]) ok34 ⟨(ev_base hN60 rfl s60_63), ⟨(ev_base hN60 rfl s60_71), trivial⟩⟩ (sameL_ret (atS (L.map ksOf) ((i : Nat) : Int)).owns ((L.map ksOf).getD i default).owns _ _ _ (by first | assumption | omega | (simp only [List.length_append, List.length_cons, List.length_nil, List.length_drop, List.length_take]; omega) | (dsimp only; omega) | decide | (simp [keyV, be8_len]; done)) (by first | assumption | omega | (simp only [List.length_append, List.length_cons, List.length_nil, List.length_drop, List.length_take]; omega) | (dsimp only; omega) | decide | (simp [keyV, be8_len]; done)) (show RdC w60 0 w60.heap.size 1 v45 (atS (L.map ksOf) ((i : Nat) : Int)).owns.length ((atS (L.map ksOf) ((i : Nat) : Int)).owns.map u16v) from by have hh : RdC w60 0 w60.heap.size 1 _ _ _ := (hO45.rdw.mono (L' := 0) (B' := w60.heap.size) (Nat.zero_le _) (by omega)); first | exact hh | exact hh.cast (by first | omega | (simp; try omega)) (by first | rfl | simp [u16v])) (show RdC w60 0 w60.heap.size 1 (C.getD i default).ow ((L.map ksOf).getD i default).owns.length (((L.map ksOf).getD i default).owns.map u16v) from by have hh : RdC w60 0 w60.heap.size 1 _ _ _ := (hd33_1.rdw.mono (L' := 0) (B' := w60.heap.size) (Nat.zero_le _) (by omega)); first | exact hh | exact hh.cast (by first | omega | (simp; try omega)) (by first | rfl | simp [u16v]))) ?_
      rintro _ w61 ⟨E62, rfl⟩
      have E62 := grown_of_below E62
      have z_w61 := E62.size
      have hr := hr.keep0 E62
      have hlab : ∀ x9 ∈ (L.map Prod.fst), RdC w61 0 w.heap.size 1 x9.1 x9.2.length (x9.2.map u16v) := fun x9 hx9 => (hlab x9 hx9).keep0 E62
      have hown : ∀ x9 ∈ (L.map Prod.snd), RdC w61 0 w.heap.size 1 x9.1 x9.2.length (x9.2.map u16v) := fun x9 hx9 => (hown x9 hx9).keep0 E62
      have hB5 := hB5.keep0 E62
      have hk14 := hk14.keepG (Gr.of0 E62 NoB) (fun _ _ h => h)
      have hxd := hxd.keep0 E62
      have hO9 := hO9.keep0 E62
      have hS9 := hS9.keepG (Gr.of0 E62 NoB) (fun _ _ h => h)
      have hd33_0 := hd33_0.keep0 E62
      have hd33_1 := hd33_1.keep0 E62
      have hO45 := hO45.keep0 E62
      have hb := below_step0 hb E62 hb.size
      rcases Bool.eq_false_or_eq_true ((decide ((atS (L.map ksOf) ((i : Nat) : Int)).owns = ((L.map ksOf).getD i default).owns))) with c72 | c72
      · -- 72T
       rw [c72]
       refine from_next ?_
       refine from_still (m := 31) 5 (hd := [_, _, _, _, _]) (by kernel_rfl) rfl rfl ?_
       refine st_g_true (j := 13) (dj := 60) (b := false) rfl rfl rfl (ev_base hN60 rfl s60_60) ?_
       refine st_step rfl (fun _ h9 => op_not (ev_hit hN60 rfl) h9) ?_
       refine st_step rfl (fun _ h9 => op_pick_f (ev_base hN60 rfl s60_60) (ev_hit hN60 rfl) h9) ?_
       refine st_step rfl (fun _ h9 => op_move (ev_hit hN60 rfl) h9) ?_
       refine st_g_true (j := 28) (dj := 75) (b := false) rfl rfl rfl (ev_hit hN60 rfl) ?_
       refine st_step rfl (fun _ h9 => op_move (ev_base hN60 rfl s60_3) h9) ?_
       refine st_g_true (j := 28) (dj := 75) (b := false) rfl rfl rfl (ev_hit hN60 rfl) ?_
       refine st_step rfl (fun _ h9 => op_move (ev_base hN60 rfl s60_7) h9) ?_
       refine st_nil ?_
       refine from_seq (tl := [_, _, _]) (by decide) (by kernel_rfl) rfl ?_
       refine g_true (j := 28) (dj := 75) (b := false) rfl rfl rfl (ev_hit hN60 rfl) ?_
       refine op_fn (vs := [(ptr k14 0), (Value.int .i64 ((i : Nat) : Int))]) ok39 ⟨(ev_hit hN60 rfl), ⟨(ev_hit hN60 rfl), trivial⟩⟩ (WaitR ((i : Nat) : Int) (by omega) ok_hk14.1 hk14) ?_
       rintro _ w63 ⟨E64, rfl⟩
       have E64 := grown_of_below E64
       have z_w63 := E64.size
       have hr := hr.keep0 E64
       have hlab : ∀ x9 ∈ (L.map Prod.fst), RdC w63 0 w.heap.size 1 x9.1 x9.2.length (x9.2.map u16v) := fun x9 hx9 => (hlab x9 hx9).keep0 E64
       have hown : ∀ x9 ∈ (L.map Prod.snd), RdC w63 0 w.heap.size 1 x9.1 x9.2.length (x9.2.map u16v) := fun x9 hx9 => (hown x9 hx9).keep0 E64
       have hB5 := hB5.keep0 E64
       have hk14 := hk14.keepG (Gr.of0 E64 NoB) (fun _ _ h => h)
       have hxd := hxd.keep0 E64
       have hO9 := hO9.keep0 E64
       have hS9 := hS9.keepG (Gr.of0 E64 NoB) (fun _ _ h => h)
       have hd33_0 := hd33_0.keep0 E64
       have hd33_1 := hd33_1.keep0 E64
       have hO45 := hO45.keep0 E64
       have hb := below_step0 hb E64 hb.size
       refine g_true (j := 28) (dj := 75) (b := false) rfl rfl rfl (ev_hit hN60 rfl) ?_
       refine op_neq (ev_hit hN60 rfl) rfl (fun c79 => ?_) (fun c79 => ?_)
       · -- 79T
        exact absurd (by rw [ha33.1, ks_texts]; rfl) c79
       · -- 79F
        refine op_pick_f (ev_hit hN60 rfl) (ev_hit hN60 rfl) ?_
        refine reg_nil ?_
        refine hK32 _ _ ?_
        refine wp_cond_false (ev_hit hN60 rfl) ?_
        refine wp_skip ?_
        refine hK31 _ _ ?_
        refine one_reg ?_
        refine op_move (ev_base hN60 rfl s60_7) ?_
        refine op_add (ev_hit hN60 rfl) rfl (add64 (by omega)) ?_
        skip
        refine op_assign (ev_hit hN60 rfl) ?_
        refine reg_nil ?_
        -- round 13F 16T 43T 58T 72T 79F
        exact loop_next _ hN60 hd60 ⟨(i + 1), rfl, (sl_base hN60 rfl s60_3), (sl_base hN60 rfl s60_5), (sl_hit hN60 rfl).trans (congrArg (Value.int .i64) (by omega)), (by omega), hb, (by omega), hr, hlab, hown, hB5, hk14, hxd, hO9, hS9⟩ (by omega)
      · -- 72F
       rw [ha33.1] at c72; simp at c72
    · -- 58F
     rw [ha33.1] at g58; simp at g58
   · -- 43F
    refine op_pick_t (ev_hit hN28 rfl) (ev_hit hN28 rfl) ?_
    refine reg_nil ?_
    refine hK30 _ _ ?_
    refine wp_cond_false (ev_hit hN28 rfl) ?_
    refine wp_exit (then_exit (then_exit (blk_hit ?_)))
    refine hK26 _ _ ?_
    refine seq_any fun K65 hK65 => ?_
    refine one_reg ?_
    refine op_assign rfl ?_
    refine reg_nil ?_
    refine hK65 _ _ ?_
    refine wp_ret ?_
    refine ret1 rfl hd28 (ev_hit hN28 rfl) ⟨_, rfl, ?_⟩
    -- path 13F 16T 43F
    exact ⟨hb, rfl⟩
  · -- 16F
   refine op_fn (vs := [(Value.agg #[vL, (Value.int .i64 q)])]) ok32 ⟨(ev_hit hN rfl), trivial⟩ (kernNewF k16 (L := L) (q := q) hL (by assumption) (hr.mono (Nat.zero_le _) (by omega)) (fun x hx => (hlab x hx).mono (Nat.zero_le _) (by omega)) (fun x hx => (hown x hx).mono (Nat.zero_le _) (by omega))) ?_
   rintro _ w66 ⟨E67, rfl⟩
   have E67 := grown_of_below E67
   have z_w66 := E67.size
   have hr := hr.keep0 E67
   have hlab : ∀ x9 ∈ (L.map Prod.fst), RdC w66 0 w.heap.size 1 x9.1 x9.2.length (x9.2.map u16v) := fun x9 hx9 => (hlab x9 hx9).keep0 E67
   have hown : ∀ x9 ∈ (L.map Prod.snd), RdC w66 0 w.heap.size 1 x9.1 x9.2.length (x9.2.map u16v) := fun x9 hx9 => (hown x9 hx9).keep0 E67
   have hB5 := hB5.keep0 E67
   have hb := below_step0 hb E67 hb.size
   refine op_move (ev_hit hN rfl) ?_
   refine op_extract (ev_hit hN rfl) rfl ?_
   refine op_extract (ev_hit hN rfl) rfl ?_
   refine op_assign (ev_hit hN rfl) ?_
   refine op_assign (ev_hit hN rfl) ?_
   refine reg_nil ?_
   refine hK13 _ _ ?_
   refine seq_any fun K68 hK68 => ?_
   refine one_reg ?_
   refine op_loadA (cs := [vL, (Value.int .i64 q)]) agg59 rfl (ev_hit hN rfl) (fun j u hu => by rw [Nat.zero_add]; exact hB5.cell hu) ?_
   refine op_fn (vs := [(Value.agg #[vL, (Value.int .i64 q)])]) ok36 ⟨(ev_hit hN rfl), trivial⟩ (newDBF k16 (L := L) (q := q) hL (by assumption) (hr.mono (Nat.zero_le _) (by omega)) (fun x hx => (hlab x hx).mono (Nat.zero_le _) (by omega)) (fun x hx => (hown x hx).mono (Nat.zero_le _) (by omega))) ?_
   rintro _ w69 ⟨E70, rfl⟩
   have E70 := grown_of_below E70
   have z_w69 := E70.size
   have hr := hr.keep0 E70
   have hlab : ∀ x9 ∈ (L.map Prod.fst), RdC w69 0 w.heap.size 1 x9.1 x9.2.length (x9.2.map u16v) := fun x9 hx9 => (hlab x9 hx9).keep0 E70
   have hown : ∀ x9 ∈ (L.map Prod.snd), RdC w69 0 w.heap.size 1 x9.1 x9.2.length (x9.2.map u16v) := fun x9 hx9 => (hown x9 hx9).keep0 E70
   have hB5 := hB5.keep0 E70
   have hb := below_step0 hb E70 hb.size
   refine op_move (ev_hit hN rfl) ?_
   refine op_extract (ev_hit hN rfl) rfl ?_
   refine op_extract (ev_hit hN rfl) rfl ?_
   refine op_assign (ev_hit hN rfl) ?_
   refine op_assign (ev_hit hN rfl) ?_
   refine reg_nil ?_
   refine hK68 _ _ ?_
   refine seq_any fun K71 hK71 => ?_
   refine seq_any fun K72 hK72 => ?_
   refine one_reg ?_
   refine op_move (ev_hit hN rfl) ?_
   refine op_move (ev_hit hN rfl) ?_
   refine op_bin (v := .bool false) (ev_hit hN rfl) (ev_hit hN rfl) (by rw [binOp_neq]; rfl) ?_
   refine op_move (ev_hit hN rfl) ?_
   refine g_true (j := 3) (dj := 27) (b := false) rfl rfl rfl (ev_hit hN rfl) ?_
   refine op_move (ev_hit hN rfl) ?_
   refine g_true (j := 3) (dj := 27) (b := false) rfl rfl rfl (ev_hit hN rfl) ?_
   refine op_peq_none ptrt50 (ev_hit hN rfl) rfl ?_
   refine g_true (j := 3) (dj := 27) (b := false) rfl rfl rfl (ev_hit hN rfl) ?_
   refine op_move (ev_hit hN rfl) ?_
   refine g_true (j := 3) (dj := 27) (b := false) rfl rfl rfl (ev_hit hN rfl) ?_
   refine op_peq_none ptrt65 (ev_hit hN rfl) rfl ?_
   refine g_true (j := 3) (dj := 27) (b := false) rfl rfl rfl (ev_hit hN rfl) ?_
   refine op_neb Try.underlying4 (ev_hit hN rfl) (ev_hit hN rfl) ?_
   refine op_pick_f (ev_hit hN rfl) (ev_hit hN rfl) ?_
   refine reg_nil ?_
   refine hK72 _ _ ?_
   refine wp_cond_false (ev_hit hN rfl) ?_
   refine wp_skip ?_
   refine hK71 _ _ ?_
   refine seq_any fun K73 hK73 => ?_
   refine seq_any fun K74 hK74 => ?_
   refine one_reg ?_
   skip
   refine op_assign rfl ?_
   refine reg_nil ?_
   refine hK74 _ _ ?_
   refine wp_block ?_
   refine wp_loop_rounds 1 ?_
   refine rounds_any fun K75 hK75 => ?_
   refine seq_any fun K76 hK76 => ?_
   refine seq_any fun K77 hK77 => ?_
   refine one_reg ?_
   refine op_move (ev_hit hN rfl) ?_
   refine op_pne_none ptrt65 (ev_hit hN rfl) rfl ?_
   refine op_move (ev_hit hN rfl) ?_
   refine g_false (j := 2) (dj := 36) (b := true) rfl rfl rfl (ev_hit hN rfl) rfl rfl ?_
   refine g_false (j := 2) (dj := 36) (b := true) rfl rfl rfl (ev_hit hN rfl) rfl rfl ?_
   refine g_false (j := 2) (dj := 36) (b := true) rfl rfl rfl (ev_hit hN rfl) rfl rfl ?_
   refine g_false (j := 2) (dj := 36) (b := true) rfl rfl rfl (ev_hit hN rfl) rfl rfl ?_
   refine g_false (j := 2) (dj := 36) (b := true) rfl rfl rfl (ev_hit hN rfl) rfl rfl ?_
   refine g_false (j := 2) (dj := 36) (b := true) rfl rfl rfl (ev_hit hN rfl) rfl rfl ?_
   refine g_false (j := 2) (dj := 36) (b := true) rfl rfl rfl (ev_hit hN rfl) rfl rfl ?_
   refine op_pick_f (ev_hit hN rfl) rfl ?_
   refine reg_nil ?_
   refine hK77 _ _ ?_
   refine wp_cond_false (ev_hit hN rfl) ?_
   refine wp_exit (then_exit (then_exit (blk_hit ?_)))
   refine hK73 _ _ ?_
   refine seq_any fun K78 hK78 => ?_
   refine one_reg ?_
   refine op_assign rfl ?_
   refine reg_nil ?_
   refine hK78 _ _ ?_
   refine wp_ret ?_
   refine ret1 rfl hd (ev_hit hN rfl) ⟨_, rfl, ?_⟩
   -- path 13F 16F
   exact ⟨hb, rfl⟩

end Go.Proofs.Ytmhdbphpmgjpcaa

/- What the arguments of the laws are, told by their types. -/
namespace Go.Proofs.Ytmhdbphpmgjpcaa
open Go.Gx Go.RowKit
theorem rd_le {w : World} {L B sz n : Nat} {v : Value} {cs : List Value} (h : RdC w L B sz v n cs) : n ≤ 9223372036854775807 := by obtain ⟨_, _, _, _, hq, hm, _⟩ := h; exact Nat.le_trans hq hm
theorem cells46 : Try.prog.cellsOf 46 = 1 := by kernel_rfl
theorem flat_u16v (l : List UInt16) : l.flatMap (fun c => [u16v c]) = l.map u16v := by induction l with | nil => rfl | cons c l ih => simp [ih]
theorem dec54 {H : Type} {enc : TypeId × Value → H} {w : World} {base : Nat} {spare : Nat → Bool} {held : Bool} : Dec enc Try.prog w base spare held 54 (fun p : Value × List UInt16 => [p.1]) (fun p => RdC w 0 w.heap.size 1 p.1 p.2.length (p.2.map u16v)) :=
  (Dec.slice Try.underlying54 (by rw [cells46]; decide) (Dec.u16 Try.underlying46) (fun _ _ => by rw [cells46]; rfl)).map fun p hp => ⟨p, rfl, by have hq := hp.1; rwa [cells46, flat_u16v] at hq⟩
theorem cells56 : Try.prog.cellsOf 56 = 2 := by kernel_rfl
theorem cells54 : Try.prog.cellsOf 54 = 1 := by kernel_rfl
theorem len_2 {l : List Value} (h : l.length = 2) : ∃ c0 c1, l = [c0, c1] := by match l, h with | [c0, c1], _ => exact ⟨c0, c1, rfl⟩
theorem dec56 {H : Type} {enc : TypeId × Value → H} {w : World} {base : Nat} {spare : Nat → Bool} {held : Bool} : Dec enc Try.prog w base spare held 56 (fun p : (Value × List UInt16) × (Value × List UInt16) => [p.1.1, p.2.1]) (fun p => (RdC w 0 w.heap.size 1 p.1.1 p.1.2.length (p.1.2.map u16v)) ∧ (RdC w 0 w.heap.size 1 p.2.1 p.2.2.length (p.2.2.map u16v))) := by
  intro fuel cs x h
  obtain ⟨xs, n, _, _, hl, hlen, hf⟩ := DataW.trod_struct Try.underlying56 h
  rw [cells56] at hl
  obtain ⟨c0, c1, rfl⟩ := len_2 hl
  have hl4 : xs.length = 2 := hlen
  have g0 : DataW.trod enc Try.prog w base spare held n 54 (([c0, c1].drop 0).take (Try.prog.cellsOf 54)) = some xs[0] := (hf 0 _ rfl).trans (List.getElem?_eq_getElem (by omega))
  have g1 : DataW.trod enc Try.prog w base spare held n 54 (([c0, c1].drop 1).take (Try.prog.cellsOf 54)) = some xs[1] := (hf 1 _ rfl).trans (List.getElem?_eq_getElem (by omega))
  obtain ⟨b0, e0, w0⟩ := dec54 _ _ _ g0
  obtain ⟨b1, e1, w1⟩ := dec54 _ _ _ g1
  simp only [cells54, List.drop_zero, List.drop_succ_cons, List.take_succ_cons, List.take_zero, List.cons.injEq, and_true] at e0 e1
  clear hf h g0 g1
  obtain rfl := e0
  obtain rfl := e1
  exact ⟨⟨b0, b1⟩, rfl, ⟨w0, w1⟩⟩
theorem dec57 {H : Type} {enc : TypeId × Value → H} {w : World} {base : Nat} {spare : Nat → Bool} {held : Bool} : Dec enc Try.prog w base spare held 57 (fun p : Value × List ((Value × List UInt16) × (Value × List UInt16)) => [p.1]) (fun p => RdC w 0 w.heap.size 2 p.1 p.2.length (p.2.flatMap (fun (x9 : (Value × List UInt16) × (Value × List UInt16)) => [x9.1.1, x9.2.1])) ∧ ∀ x ∈ p.2, ((RdC w 0 w.heap.size 1 x.1.1 x.1.2.length (x.1.2.map u16v)) ∧ (RdC w 0 w.heap.size 1 x.2.1 x.2.2.length (x.2.2.map u16v)))) :=
  (Dec.slice Try.underlying57 (by rw [cells56]; decide) dec56 (fun _ _ => by rw [cells56]; rfl)).map fun p hp => ⟨p, rfl, by have hq := hp.1; rw [cells56] at hq; exact hq, hp.2⟩
theorem cells59 : Try.prog.cellsOf 59 = 2 := by kernel_rfl
theorem cells57 : Try.prog.cellsOf 57 = 1 := by kernel_rfl
theorem cells3 : Try.prog.cellsOf 3 = 1 := by kernel_rfl
theorem dec59 {H : Type} {enc : TypeId × Value → H} {w : World} {base : Nat} {spare : Nat → Bool} {held : Bool} : Dec enc Try.prog w base spare held 59 (fun p : (Value × List ((Value × List UInt16) × (Value × List UInt16))) × (Int) => [p.1.1, .int .i64 p.2]) (fun p => (RdC w 0 w.heap.size 2 p.1.1 p.1.2.length (p.1.2.flatMap (fun (x9 : (Value × List UInt16) × (Value × List UInt16)) => [x9.1.1, x9.2.1])) ∧ ∀ x ∈ p.1.2, ((RdC w 0 w.heap.size 1 x.1.1 x.1.2.length (x.1.2.map u16v)) ∧ (RdC w 0 w.heap.size 1 x.2.1 x.2.2.length (x.2.2.map u16v)))) ∧ (Lit.int .i64 p.2).wf = true) := by
  intro fuel cs x h
  obtain ⟨xs, n, _, _, hl, hlen, hf⟩ := DataW.trod_struct Try.underlying59 h
  rw [cells59] at hl
  obtain ⟨c0, c1, rfl⟩ := len_2 hl
  have hl4 : xs.length = 2 := hlen
  have g0 : DataW.trod enc Try.prog w base spare held n 57 (([c0, c1].drop 0).take (Try.prog.cellsOf 57)) = some xs[0] := (hf 0 _ rfl).trans (List.getElem?_eq_getElem (by omega))
  have g1 : DataW.trod enc Try.prog w base spare held n 3 (([c0, c1].drop 1).take (Try.prog.cellsOf 3)) = some xs[1] := (hf 1 _ rfl).trans (List.getElem?_eq_getElem (by omega))
  obtain ⟨b0, e0, w0⟩ := dec57 _ _ _ g0
  obtain ⟨b1, e1, w1⟩ := (Dec.int Try.underlying3) _ _ _ g1
  simp only [cells57, cells3, List.drop_zero, List.drop_succ_cons, List.take_succ_cons, List.take_zero, List.cons.injEq, and_true] at e0 e1
  clear hf h g0 g1
  obtain rfl := e0
  obtain rfl := e1
  exact ⟨⟨b0, b1⟩, rfl, ⟨w0, w1⟩⟩
end Go.Proofs.Ytmhdbphpmgjpcaa
