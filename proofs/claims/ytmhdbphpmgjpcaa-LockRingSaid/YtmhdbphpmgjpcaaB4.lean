/- Walks, written by a program: what each function of the translation hands back. -/
import Derived.Test.YtmhdbphpmgjpcaaProg
import Derived.KernelRfl
import Derived.Test.YtmhdbphpmgjpcaaB3
namespace Go.Proofs.Ytmhdbphpmgjpcaa
open Go.Gx Go.RowKit
attribute [local irreducible] wpList wpStill Code.wp Calls

theorem light_ret (o : OpT) (w : World) (hlm : (opL o).length ≤ 9223372036854775807) (hL0 : RdC w 0 w.heap.size 1 (opLv o) (opL o).length ((opL o).map u16v)) (hR0 : RdC w 0 w.heap.size 1 (opRv o) (opR o).length ((opR o).map sv)) : Ret Try.prog 56 #[(Value.agg #[(Value.int .i64 (opK o)), (Value.int .i64 (opN o)), (opLv o), (Value.int .u64 ((opS o).toNat : Int)), (opRv o), (Value.string (bs (opW o)))])] w (fun v' w' => Below w.heap.size w w' ∧ v' = .bool (lightB o)) := by
 have hb := Below.refl w.heap.size w
 refine enter (N := 34) Try.func56 rfl rfl (by simp) fun a0 hN hd hA => ?_
 have s0 : a0.tmps.getD 0 undef = (Value.agg #[(Value.int .i64 (opK o)), (Value.int .i64 (opN o)), (opLv o), (Value.int .u64 ((opS o).toNat : Int)), (opRv o), (Value.string (bs (opW o)))]) := hA 0 (by simp)
 clear hA
 refine seq_any fun K1 hK1 => ?_
 refine one_reg ?_
 refine op_box (cs := [(Value.int .i64 (opK o)), (Value.int .i64 (opN o)), (opLv o), (Value.int .u64 ((opS o).toNat : Int)), (opRv o), (Value.string (bs (opW o)))]) (ev_base hN rfl s0) rfl ?_
 intro w2 b3 lo_b3 hi_b3 hB5 E4
 have z_w2 := E4.size
 have hL0 := hL0.keep0 E4
 have hR0 := hR0.keep0 E4
 have hb := below_step0 hb E4 hb.size
 refine op_assign rfl ?_
 refine reg_nil ?_
 refine hK1 _ _ ?_
 refine seq_any fun K6 hK6 => ?_
 refine seq_any fun K7 hK7 => ?_
 refine one_reg ?_
 refine op_field fld103_2 (ev_hit hN rfl) ?_
 refine op_load1 (v := (opLv o)) one54 (ev_hit hN rfl) (hB5.cell rfl) ?_
 refine op_fn (vs := [(opLv o)]) ok33 ⟨(ev_hit hN rfl), trivial⟩ (refMay_ret (opL o) _ _ (by first | assumption | omega | (simp only [List.length_append, List.length_cons, List.length_nil, List.length_drop, List.length_take]; omega) | (dsimp only; omega) | decide | (simp [keyV, be8_len]; done)) (show RdC w2 0 w2.heap.size 1 (opLv o) (opL o).length ((opL o).map u16v) from by have hh : RdC w2 0 w2.heap.size 1 _ _ _ := (hL0.mono (L' := 0) (B' := w2.heap.size) (Nat.zero_le _) (by omega)); first | exact hh | exact hh.cast (by first | omega | (simp; try omega)) (by first | rfl | simp [u16v]))) ?_
 rintro _ w8 ⟨E9, rfl⟩
 have E9 := grown_of_below E9
 have z_w8 := E9.size
 have hL0 := hL0.keep0 E9
 have hR0 := hR0.keep0 E9
 have hB5 := hB5.keep0 E9
 have hb := below_step0 hb E9 hb.size
 rcases Bool.eq_false_or_eq_true ((mayL (opL o))) with c6 | c6
 · -- 6T
  rw [c6]
  refine op_not (ev_hit hN rfl) ?_
  refine op_move (ev_hit hN rfl) ?_
  refine g_true (j := 4) (dj := 8) (b := false) rfl rfl rfl (ev_hit hN rfl) ?_
  refine op_field fld103_4 (ev_hit hN rfl) ?_
  refine g_true (j := 4) (dj := 8) (b := false) rfl rfl rfl (ev_hit hN rfl) ?_
  refine op_load1 (v := (opRv o)) one26 (ev_hit hN rfl) (hB5.cell rfl) ?_
  refine g_true (j := 4) (dj := 8) (b := false) rfl rfl rfl (ev_hit hN rfl) ?_
  refine op_len_rd Try.underlying26 (ev_hit hN rfl) hR0 ?_
  refine g_true (j := 4) (dj := 8) (b := false) rfl rfl rfl (ev_hit hN rfl) ?_
  refine op_gtr (ev_hit hN rfl) rfl (fun c12 => ?_) (fun c12 => ?_)
  · -- 12T
   refine op_pick_f (ev_hit hN rfl) (ev_hit hN rfl) ?_
   refine op_move (ev_hit hN rfl) ?_
   refine g_false (j := 10) (dj := 14) (b := false) rfl rfl rfl (ev_hit hN rfl) rfl rfl ?_
   refine g_false (j := 10) (dj := 14) (b := false) rfl rfl rfl (ev_hit hN rfl) rfl rfl ?_
   refine g_false (j := 10) (dj := 14) (b := false) rfl rfl rfl (ev_hit hN rfl) rfl rfl ?_
   refine g_false (j := 10) (dj := 14) (b := false) rfl rfl rfl (ev_hit hN rfl) rfl rfl ?_
   refine op_pick_t (ev_hit hN rfl) rfl ?_
   refine reg_nil ?_
   refine hK7 _ _ ?_
   refine wp_cond_true (ev_hit hN rfl) ?_
   refine seq_any fun K10 hK10 => ?_
   refine one_reg ?_
   refine op_assign rfl ?_
   refine reg_nil ?_
   refine hK10 _ _ ?_
   refine wp_ret (then_ret ( ?_))
   refine ret1 rfl hd (ev_hit hN rfl) ⟨_, rfl, ?_⟩
   -- path 6T 12T
   exact ⟨hb, congrArg Value.bool (Eq.symm (lightB_f (fun h => by have := h.2.1; omega)))⟩
  · -- 12F
   refine op_pick_f (ev_hit hN rfl) (ev_hit hN rfl) ?_
   refine op_move (ev_hit hN rfl) ?_
   refine g_true (j := 10) (dj := 14) (b := false) rfl rfl rfl (ev_hit hN rfl) ?_
   refine op_field fld103_5 (ev_hit hN rfl) ?_
   refine g_true (j := 10) (dj := 14) (b := false) rfl rfl rfl (ev_hit hN rfl) ?_
   refine op_load1 (v := (Value.string (bs (opW o)))) one9 (ev_hit hN rfl) (hB5.cell rfl) ?_
   refine g_true (j := 10) (dj := 14) (b := false) rfl rfl rfl (ev_hit hN rfl) ?_
   refine op_len_str Try.underlying9 (ev_hit hN rfl) ?_
   refine g_true (j := 10) (dj := 14) (b := false) rfl rfl rfl (ev_hit hN rfl) ?_
   refine op_gtr (ev_hit hN rfl) rfl (fun c18 => ?_) (fun c18 => ?_)
   · -- 18T
    refine op_pick_f (ev_hit hN rfl) (ev_hit hN rfl) ?_
    refine reg_nil ?_
    refine hK7 _ _ ?_
    refine wp_cond_true (ev_hit hN rfl) ?_
    refine seq_any fun K11 hK11 => ?_
    refine one_reg ?_
    refine op_assign rfl ?_
    refine reg_nil ?_
    refine hK11 _ _ ?_
    refine wp_ret (then_ret ( ?_))
    refine ret1 rfl hd (ev_hit hN rfl) ⟨_, rfl, ?_⟩
    -- path 6T 12F 18T
    exact ⟨hb, congrArg Value.bool (Eq.symm (lightB_f (fun h => by have := h.2.2.1; omega)))⟩
   · -- 18F
    refine op_pick_f (ev_hit hN rfl) (ev_hit hN rfl) ?_
    refine reg_nil ?_
    refine hK7 _ _ ?_
    refine wp_cond_false (ev_hit hN rfl) ?_
    refine wp_skip ?_
    refine hK6 _ _ ?_
    refine seq_any fun K12 hK12 => ?_
    refine seq_any fun K13 hK13 => ?_
    refine one_reg ?_
    refine op_assign rfl ?_
    refine reg_nil ?_
    refine hK13 _ _ ?_
    refine wp_block ?_
    refine loop_m (fun mz_ az_ w' => ∃ (i : Nat), mz_ = (opR o).length - i ∧ (az_.tmps.getD 1 undef = (ptr b3 0)) ∧ (az_.tmps.getD 3 undef = (Value.int .i64 ((i : Nat) : Int))) ∧ (i ≤ (opR o).length) ∧ (∀ j, j < i → ((opR o).getD j []).length ≤ 20) ∧ (Below w.heap.size w w') ∧ (w8.heap.size ≤ w'.heap.size) ∧ (RdC w' 0 w.heap.size 1 (opLv o) (opL o).length ((opL o).map u16v)) ∧ (RdC w' 0 w.heap.size 1 (opRv o) (opR o).length ((opR o).map sv)) ∧ (Bx w' b3 103 [(Value.int .i64 (opK o)), (Value.int .i64 (opN o)), (opLv o), (Value.int .u64 ((opS o).toNat : Int)), (opRv o), (Value.string (bs (opW o)))])) _ hN hd ⟨0, rfl, (sl_hit hN rfl), (sl_hit hN rfl), (Nat.zero_le _), (fun _ h => absurd h (Nat.not_lt_zero _)), hb, (Nat.le_refl _), hL0, hR0, hB5⟩ ?_
    rintro _ a14 w14 hN14 hd14 ⟨i, rfl, s14_1, s14_3, hi, hj, hb, zl_w14, hL0, hR0, hB5⟩
    have z_w14 := hb.size
    refine seq_any fun K15 hK15 => ?_
    refine seq_any fun K16 hK16 => ?_
    refine one_reg ?_
    refine op_move (ev_base hN14 rfl s14_3) ?_
    refine op_field fld103_4 (ev_base hN14 rfl s14_1) ?_
    refine op_load1 (v := (opRv o)) one26 (ev_hit hN14 rfl) (hB5.cell rfl) ?_
    refine op_len_rd Try.underlying26 (ev_hit hN14 rfl) hR0 ?_
    refine op_lss (ev_hit hN14 rfl) (ev_hit hN14 rfl) (fun c24 => ?_) (fun c24 => ?_)
    · -- 24T
     refine reg_nil ?_
     refine hK16 _ _ ?_
     refine wp_cond_true (ev_hit hN14 rfl) ?_
     refine wp_skip ?_
     refine hK15 _ _ ?_
     refine seq_any fun K17 hK17 => ?_
     refine wp_block ?_
     refine seq_any fun K18 hK18 => ?_
     refine one_reg ?_
     refine op_field fld103_4 (ev_base hN14 rfl s14_1) ?_
     refine op_load1 (v := (opRv o)) one26 (ev_hit hN14 rfl) (hB5.cell rfl) ?_
     refine op_move (ev_base hN14 rfl s14_3) ?_
     refine op_index_rd slt26 (ev_hit hN14 rfl) hR0 (ev_hit hN14 rfl) (by omega) (by omega) ?_
     intro b19 o20 h0b19 h1b19 hc21
     refine op_load1 (v := (Value.string (bs ((opR o).getD i [])))) one9 (ev_hit hN14 rfl) (by have := hc21 0 (Value.string (bs ((opR o).getD i []))) (by decide) (el_sv (i := i) (by omega) (by omega)); simpa using this) ?_
     refine op_len_str Try.underlying9 (ev_hit hN14 rfl) ?_
     refine op_gtr (ev_hit hN14 rfl) rfl (fun c33 => ?_) (fun c33 => ?_)
     · -- 33T
      refine reg_nil ?_
      refine hK18 _ _ ?_
      refine wp_cond_true (ev_hit hN14 rfl) ?_
      refine seq_any fun K22 hK22 => ?_
      refine one_reg ?_
      refine op_assign rfl ?_
      refine reg_nil ?_
      refine hK22 _ _ ?_
      refine wp_ret (blk_ret (then_ret (then_ret (blk_ret (then_ret ( ?_))))))
      refine ret1 rfl hd14 (ev_hit hN14 rfl) ⟨_, rfl, ?_⟩
      -- path 6T 12F 18F 24T 33T
      exact ⟨hb, congrArg Value.bool (Eq.symm (lightB_f (fun h => by have := h.2.2.2 _ (getD_mem (d := []) (show i < (opR o).length by omega)); omega)))⟩
     · -- 33F
      refine reg_nil ?_
      refine hK18 _ _ ?_
      refine wp_cond_false (ev_hit hN14 rfl) ?_
      refine wp_skip ?_
      refine hK17 _ _ ?_
      refine one_reg ?_
      refine op_move (ev_base hN14 rfl s14_3) ?_
      refine op_add (ev_hit hN14 rfl) rfl (add64 (by omega)) ?_
      refine op_assign (ev_hit hN14 rfl) ?_
      refine reg_nil ?_
      -- round 6T 12F 18F 24T 33F
      exact loop_next _ hN14 hd14 ⟨(i + 1), rfl, (sl_base hN14 rfl s14_1), (sl_hit hN14 rfl).trans (congrArg (Value.int .i64) (by omega)), (by omega), (le_upto hj (by omega)), hb, (by omega), hL0, hR0, hB5⟩ (by omega)
    · -- 24F
     refine reg_nil ?_
     refine hK16 _ _ ?_
     refine wp_cond_false (ev_hit hN14 rfl) ?_
     refine wp_exit (then_exit (then_exit (blk_hit ?_)))
     refine hK12 _ _ ?_
     refine seq_any fun K23 hK23 => ?_
     refine one_reg ?_
     refine op_assign rfl ?_
     refine reg_nil ?_
     refine hK23 _ _ ?_
     refine wp_ret ?_
     refine ret1 rfl hd14 (ev_hit hN14 rfl) ⟨_, rfl, ?_⟩
     -- path 6T 12F 18F 24F
     exact ⟨hb, congrArg Value.bool (Eq.symm (lightB_t ⟨c6, by omega, by omega, fun r hr => by obtain ⟨j, h1, rfl⟩ := mem_getD (d := []) hr; exact hj j (by omega)⟩))⟩
 · -- 6F
  rw [c6]
  refine op_not (ev_hit hN rfl) ?_
  refine op_move (ev_hit hN rfl) ?_
  refine g_false (j := 4) (dj := 8) (b := false) rfl rfl rfl (ev_hit hN rfl) rfl rfl ?_
  refine g_false (j := 4) (dj := 8) (b := false) rfl rfl rfl (ev_hit hN rfl) rfl rfl ?_
  refine g_false (j := 4) (dj := 8) (b := false) rfl rfl rfl (ev_hit hN rfl) rfl rfl ?_
  refine g_false (j := 4) (dj := 8) (b := false) rfl rfl rfl (ev_hit hN rfl) rfl rfl ?_
  refine op_pick_t (ev_hit hN rfl) rfl ?_
  refine op_move (ev_hit hN rfl) ?_
  refine g_false (j := 10) (dj := 14) (b := false) rfl rfl rfl (ev_hit hN rfl) rfl rfl ?_
  refine g_false (j := 10) (dj := 14) (b := false) rfl rfl rfl (ev_hit hN rfl) rfl rfl ?_
  refine g_false (j := 10) (dj := 14) (b := false) rfl rfl rfl (ev_hit hN rfl) rfl rfl ?_
  refine g_false (j := 10) (dj := 14) (b := false) rfl rfl rfl (ev_hit hN rfl) rfl rfl ?_
  refine op_pick_t (ev_hit hN rfl) rfl ?_
  refine reg_nil ?_
  refine hK7 _ _ ?_
  refine wp_cond_true (ev_hit hN rfl) ?_
  refine seq_any fun K24 hK24 => ?_
  refine one_reg ?_
  refine op_assign rfl ?_
  refine reg_nil ?_
  refine hK24 _ _ ?_
  refine wp_ret (then_ret ( ?_))
  refine ret1 rfl hd (ev_hit hN rfl) ⟨_, rfl, ?_⟩
  -- path 6F
  exact ⟨hb, congrArg Value.bool (Eq.symm (lightB_f (fun h => by rw [h.1] at c6; cases c6)))⟩

set_option maxHeartbeats 2000000 in
theorem LockRing_ret (L : List OpT) (vL : Value) (w : World) (hL : L.length ≤ 9223372036854775807) (hsz : ∀ x ∈ L, (opL x).length ≤ 9223372036854775807) (hr : RdC w 0 w.heap.size 6 vL L.length (L.flatMap cellsOp)) (hls : ∀ x9 ∈ L.map opLab, RdC w 0 w.heap.size 1 x9.1 x9.2.length (x9.2.map u16v)) (hrs : ∀ x9 ∈ L.map opRds, RdC w 0 w.heap.size 1 x9.1 x9.2.length (x9.2.map sv)) : Ret Try.prog 11 #[vL] w (fun v' w' => Below w.heap.size w w' ∧ v' = .bool true) := by
 have hb := Below.refl w.heap.size w
 refine enter (N := 117) Try.func11 rfl rfl (by simp) fun a0 hN hd hA => ?_
 have s0 : a0.tmps.getD 0 undef = vL := hA 0 (by simp)
 clear hA
 refine seq_any fun K25 hK25 => ?_
 refine one_reg ?_
 refine op_assign rfl ?_
 refine reg_nil ?_
 refine hK25 _ _ ?_
 refine seq_any fun K26 hK26 => ?_
 refine seq_any fun K27 hK27 => ?_
 refine one_reg ?_
 refine op_fn (vs := []) ok52 trivial (begun19_ret _) ?_
 rintro _ w28 ⟨E29, rfl⟩
 have E29 := grown_of_below E29
 have z_w28 := E29.size
 have hr := hr.keep0 E29
 have hls : ∀ x9 ∈ (L.map opLab), RdC w28 0 w.heap.size 1 x9.1 x9.2.length (x9.2.map u16v) := fun x9 hx9 => (hls x9 hx9).keep0 E29
 have hrs : ∀ x9 ∈ (L.map opRds), RdC w28 0 w.heap.size 1 x9.1 x9.2.length (x9.2.map sv) := fun x9 hx9 => (hrs x9 hx9).keep0 E29
 have hb := below_step0 hb E29 hb.size
 refine op_not (ev_hit hN rfl) ?_
 refine reg_nil ?_
 refine hK27 _ _ ?_
 refine wp_cond_false (ev_hit hN rfl) ?_
 refine wp_skip ?_
 refine hK26 _ _ ?_
 refine seq_any fun K30 hK30 => ?_
 refine seq_any fun K31 hK31 => ?_
 refine one_reg ?_
 refine op_move (ev_base hN rfl s0) ?_
 refine op_len_rd Try.underlying99 (ev_hit hN rfl) hr ?_
 refine op_gtr (ev_hit hN rfl) rfl (fun c18 => ?_) (fun c18 => ?_)
 · -- 18T
  refine reg_nil ?_
  refine hK31 _ _ ?_
  refine wp_cond_true (ev_hit hN rfl) ?_
  refine seq_any fun K32 hK32 => ?_
  refine one_reg ?_
  refine op_assign rfl ?_
  refine reg_nil ?_
  refine hK32 _ _ ?_
  refine wp_ret (then_ret ( ?_))
  refine ret1 rfl hd (ev_hit hN rfl) ⟨_, rfl, ?_⟩
  -- path 18T
  exact ⟨hb, rfl⟩
 · -- 18F
  refine reg_nil ?_
  refine hK31 _ _ ?_
  refine wp_cond_false (ev_hit hN rfl) ?_
  refine wp_skip ?_
  refine hK30 _ _ ?_
  refine seq_any fun K33 hK33 => ?_
  refine one_reg ?_
  refine op_fn (vs := []) ok53 trivial (lockNewR) ?_
  rintro _ w35 ⟨E36, k34, F34, rfl, hl34⟩
  have lo_F34 : ∀ x, F34 x → w28.heap.size ≤ x := fun x hx => (hl34.lt x hx).1
  have E36 := grown_of_below E36
  have z_w35 := E36.size
  have hr := hr.keep0 E36
  have hls : ∀ x9 ∈ (L.map opLab), RdC w35 0 w.heap.size 1 x9.1 x9.2.length (x9.2.map u16v) := fun x9 hx9 => (hls x9 hx9).keep0 E36
  have hrs : ∀ x9 ∈ (L.map opRds), RdC w35 0 w.heap.size 1 x9.1 x9.2.length (x9.2.map sv) := fun x9 hx9 => (hrs x9 hx9).keep0 E36
  have hb := below_step0 hb E36 hb.size
  have hl34 : LocksR w35 w.heap.size k34 ([] : TM) F34 := hl34.mono (by omega)
  refine op_assign (ev_hit hN rfl) ?_
  refine reg_nil ?_
  refine hK33 _ _ ?_
  refine seq_any fun K37 hK37 => ?_
  refine one_reg ?_
  refine op_alloc (cs := [(Value.bool false), (Value.bool false), (Value.bool false), (Value.bool false), (Value.bool false), (Value.bool false), (Value.bool false), (Value.bool false)]) zero100 rfl ?_
  intro w38 b39 lo_b39 hi_b39 hB41 E40
  have dj42 : ¬ F34 b39 := fun hf => by have := (hl34.lt _ hf).2; omega
  have z_w38 := E40.size
  have hr := hr.keep0 E40
  have hls : ∀ x9 ∈ (L.map opLab), RdC w38 0 w.heap.size 1 x9.1 x9.2.length (x9.2.map u16v) := fun x9 hx9 => (hls x9 hx9).keep0 E40
  have hrs : ∀ x9 ∈ (L.map opRds), RdC w38 0 w.heap.size 1 x9.1 x9.2.length (x9.2.map sv) := fun x9 hx9 => (hrs x9 hx9).keep0 E40
  have hl34 := hl34.keepG (Gr.of0 E40 NoB) (fun _ _ h => h)
  have hb := below_step0 hb E40 hb.size
  refine reg_nil ?_
  refine hK37 _ _ ?_
  refine seq_any fun K43 hK43 => ?_
  refine one_reg ?_
  refine op_alloc (cs := [(Value.int .u64 0), (Value.int .u64 0), (Value.int .u64 0), (Value.int .u64 0), (Value.int .u64 0), (Value.int .u64 0), (Value.int .u64 0), (Value.int .u64 0)]) zero101 rfl ?_
  intro w44 b45 lo_b45 hi_b45 hB47 E46
  have dj48 : ¬ F34 b45 := fun hf => by have := (hl34.lt _ hf).2; omega
  have z_w44 := E46.size
  have hr := hr.keep0 E46
  have hls : ∀ x9 ∈ (L.map opLab), RdC w44 0 w.heap.size 1 x9.1 x9.2.length (x9.2.map u16v) := fun x9 hx9 => (hls x9 hx9).keep0 E46
  have hrs : ∀ x9 ∈ (L.map opRds), RdC w44 0 w.heap.size 1 x9.1 x9.2.length (x9.2.map sv) := fun x9 hx9 => (hrs x9 hx9).keep0 E46
  have hl34 := hl34.keepG (Gr.of0 E46 NoB) (fun _ _ h => h)
  have hB41 := hB41.keep0 E46
  have hb := below_step0 hb E46 hb.size
  refine reg_nil ?_
  refine hK43 _ _ ?_
  refine seq_any fun K49 hK49 => ?_
  refine seq_any fun K50 hK50 => ?_
  refine one_reg ?_
  refine op_assign rfl ?_
  refine reg_nil ?_
  refine hK50 _ _ ?_
  refine wp_block ?_
  refine loop_m (fun mz_ az_ w' => ∃ (i : Nat) (M : TM) (IN : List Bool) (ST : List Nat) (FK : Nat → Prop), mz_ = L.length - i ∧ (az_.tmps.getD 0 undef = vL) ∧ (az_.tmps.getD 3 undef = (ptr k34 0)) ∧ (az_.tmps.getD 4 undef = (ptr b39 0)) ∧ (az_.tmps.getD 5 undef = (ptr b45 0)) ∧ (az_.tmps.getD 6 undef = (Value.int .i64 ((i : Nat) : Int))) ∧ (i ≤ L.length) ∧ (RInv IN ST M (3 * i)) ∧ (¬ FK b39) ∧ (¬ FK b45) ∧ (Below w.heap.size w w') ∧ (w44.heap.size ≤ w'.heap.size) ∧ (RdC w' 0 w.heap.size 6 vL L.length (L.flatMap cellsOp)) ∧ (∀ x9 ∈ (L.map opLab), RdC w' 0 w.heap.size 1 x9.1 x9.2.length (x9.2.map u16v)) ∧ (∀ x9 ∈ (L.map opRds), RdC w' 0 w.heap.size 1 x9.1 x9.2.length (x9.2.map sv)) ∧ (LocksR w' w.heap.size k34 M FK) ∧ (Bx w' b39 100 ((IN.map Value.bool))) ∧ (Bx w' b45 101 ((ST.map nU)))) _ hN hd ⟨0, [], (List.replicate 8 false), (List.replicate 8 0), F34, rfl, (sl_base hN rfl s0), (sl_hit hN rfl), (sl_hit hN rfl), (sl_hit hN rfl), (sl_hit hN rfl), (Nat.zero_le _), RInv.start, dj42, dj48, hb, (Nat.le_refl _), hr, hls, hrs, hl34, hB41, hB47⟩ ?_
  rintro _ a51 w51 hN51 hd51 ⟨i, M, IN, ST, FK, rfl, s51_0, s51_3, s51_4, s51_5, s51_6, hi, hR, djb39, djb45, hb, zl_w51, hr, hls, hrs, hK, hIN, hST⟩
  have z_w51 := hb.size
  refine seq_any fun K52 hK52 => ?_
  refine seq_any fun K53 hK53 => ?_
  refine one_reg ?_
  refine op_move (ev_base hN51 rfl s51_6) ?_
  refine op_move (ev_base hN51 rfl s51_0) ?_
  refine op_len_rd Try.underlying99 (ev_hit hN51 rfl) hr ?_
  refine op_lss (ev_hit hN51 rfl) (ev_hit hN51 rfl) (fun c23 => ?_) (fun c23 => ?_)
  · -- 23T
   refine reg_nil ?_
   refine hK53 _ _ ?_
   refine wp_cond_true (ev_hit hN51 rfl) ?_
   refine wp_skip ?_
   refine hK52 _ _ ?_
   refine seq_any fun K54 hK54 => ?_
   refine wp_block ?_
   refine seq_any fun K55 hK55 => ?_
   refine one_reg ?_
   have hLi : RdC w51 0 w.heap.size 1 (opLv (L.getD i dOp)) (opL (L.getD i dOp)).length ((opL (L.getD i dOp)).map u16v) := hls _ (List.mem_map.2 ⟨_, getD_mem (d := dOp) (show i < L.length by omega), rfl⟩)
   have hRi : RdC w51 0 w.heap.size 1 (opRv (L.getD i dOp)) (opR (L.getD i dOp)).length ((opR (L.getD i dOp)).map sv) := hrs _ (List.mem_map.2 ⟨_, getD_mem (d := dOp) (show i < L.length by omega), rfl⟩)
   have hsi := hsz _ (getD_mem (d := dOp) (show i < L.length by omega))
   refine op_move (ev_base hN51 rfl s51_0) ?_
   refine op_move (ev_base hN51 rfl s51_6) ?_
   refine op_index_rd slt99 (ev_hit hN51 rfl) hr (ev_hit hN51 rfl) (by omega) (by omega) ?_
   intro b56 o57 h0b56 h1b56 hc58
   refine op_loadA (cs := [(Value.int .i64 (opK (L.getD i dOp))), (Value.int .i64 (opN (L.getD i dOp))), (opLv (L.getD i dOp)), (Value.int .u64 ((opS (L.getD i dOp)).toNat : Int)), (opRv (L.getD i dOp)), (Value.string (bs (opW (L.getD i dOp))))]) agg103 rfl (ev_hit hN51 rfl) (fun j u hu => hc58 j u (by have := (List.getElem?_eq_some_iff.1 hu).1; simpa using this) ((el_op (i := i) (by omega) (by omega)) j u hu)) ?_
   refine op_alloc (cs := [(Value.int .i64 0), (Value.int .i64 0), (Value.slice none 0 0), (Value.int .u64 0), (Value.slice none 0 0), (Value.string (bs []))]) zero103 rfl ?_
   intro w59 b60 lo_b60 hi_b60 hB62 E61
   have dj63 : ¬ FK b60 := fun hf => by have := (hK.lt _ hf).2; omega
   have z_w59 := E61.size
   have hr := hr.keep0 E61
   have hls : ∀ x9 ∈ (L.map opLab), RdC w59 0 w.heap.size 1 x9.1 x9.2.length (x9.2.map u16v) := fun x9 hx9 => (hls x9 hx9).keep0 E61
   have hrs : ∀ x9 ∈ (L.map opRds), RdC w59 0 w.heap.size 1 x9.1 x9.2.length (x9.2.map sv) := fun x9 hx9 => (hrs x9 hx9).keep0 E61
   have hK := hK.keepG (Gr.of0 E61 NoB) (fun _ _ h => h)
   have hIN := hIN.keep0 E61
   have hST := hST.keep0 E61
   have hLi := hLi.keep0 E61
   have hRi := hRi.keep0 E61
   have hb := below_step0 hb E61 hb.size
   have hB62_old := hB62
   refine op_store (vs := [(Value.int .i64 (opK (L.getD i dOp))), (Value.int .i64 (opN (L.getD i dOp))), (opLv (L.getD i dOp)), (Value.int .u64 ((opS (L.getD i dOp)).toNat : Int)), (opRv (L.getD i dOp)), (Value.string (bs (opW (L.getD i dOp))))]) (cs' := [(Value.int .i64 (opK (L.getD i dOp))), (Value.int .i64 (opN (L.getD i dOp))), (opLv (L.getD i dOp)), (Value.int .u64 ((opS (L.getD i dOp)).toNat : Int)), (opRv (L.getD i dOp)), (Value.string (bs (opW (L.getD i dOp))))]) size103 (ev_hit hN51 rfl) (ev_hit hN51 rfl) rfl rfl (by simp only [List.all_cons, List.all_nil, Bool.true_and, Bool.and_true, hLi.one, hRi.one]; try rfl) hB62 (Nat.le_of_ble_eq_true rfl) rfl ?_
   intro w66 hB62 E67
   have z_w66 := E67.size
   have hr := hr.keep E67 (fun k hk => .inr (by simp at hk; omega))
   have hls : ∀ x9 ∈ (L.map opLab), RdC w66 0 w.heap.size 1 x9.1 x9.2.length (x9.2.map u16v) := fun x9 hx9 => (hls x9 hx9).keep E67 (fun k hk => .inr (by simp at hk; omega))
   have hrs : ∀ x9 ∈ (L.map opRds), RdC w66 0 w.heap.size 1 x9.1 x9.2.length (x9.2.map sv) := fun x9 hx9 => (hrs x9 hx9).keep E67 (fun k hk => .inr (by simp at hk; omega))
   have hK := hK.keepG (Gr.of E67) (Dj.one dj63)
   have hIN := hIN.keep E67 (fun hh => hIN.ne hB62_old (by decide) (Option.some.inj hh))
   have hST := hST.keep E67 (fun hh => hST.ne hB62_old (by decide) (Option.some.inj hh))
   have hLi := hLi.keep E67 (fun k hk => .inr (by simp at hk; omega))
   have hRi := hRi.keep E67 (fun k hk => .inr (by simp at hk; omega))
   have hb := below_step1 hb E67 hb.size (by omega)
   refine reg_nil ?_
   refine hK55 _ _ ?_
   refine seq_any fun K68 hK68 => ?_
   refine seq_any fun K69 hK69 => ?_
   refine one_reg ?_
   refine op_loadA (cs := [(Value.int .i64 (opK (L.getD i dOp))), (Value.int .i64 (opN (L.getD i dOp))), (opLv (L.getD i dOp)), (Value.int .u64 ((opS (L.getD i dOp)).toNat : Int)), (opRv (L.getD i dOp)), (Value.string (bs (opW (L.getD i dOp))))]) agg103 rfl (ev_hit hN51 rfl) (fun j u hu => by rw [Nat.zero_add]; exact hB62.cell hu) ?_
   refine op_fn (vs := [(Value.agg #[(Value.int .i64 (opK (L.getD i dOp))), (Value.int .i64 (opN (L.getD i dOp))), (opLv (L.getD i dOp)), (Value.int .u64 ((opS (L.getD i dOp)).toNat : Int)), (opRv (L.getD i dOp)), (Value.string (bs (opW (L.getD i dOp))))])]) ok56 ⟨(ev_hit hN51 rfl), trivial⟩ (light_ret (L.getD i dOp) _ (by omega) (hLi.mono (Nat.zero_le _) (by omega)) (hRi.mono (Nat.zero_le _) (by omega))) ?_
   rintro _ w70 ⟨E71, rfl⟩
   have E71 := grown_of_below E71
   have z_w70 := E71.size
   have hr := hr.keep0 E71
   have hls : ∀ x9 ∈ (L.map opLab), RdC w70 0 w.heap.size 1 x9.1 x9.2.length (x9.2.map u16v) := fun x9 hx9 => (hls x9 hx9).keep0 E71
   have hrs : ∀ x9 ∈ (L.map opRds), RdC w70 0 w.heap.size 1 x9.1 x9.2.length (x9.2.map sv) := fun x9 hx9 => (hrs x9 hx9).keep0 E71
   have hK := hK.keepG (Gr.of0 E71 NoB) (fun _ _ h => h)
   have hIN := hIN.keep0 E71
   have hST := hST.keep0 E71
   have hLi := hLi.keep0 E71
   have hRi := hRi.keep0 E71
   have hB62 := hB62.keep0 E71
   have hb := below_step0 hb E71 hb.size
   rcases Bool.eq_false_or_eq_true ((lightB (L.getD i dOp))) with c31 | c31
   · -- 31T
    rw [c31]
    refine op_not (ev_hit hN51 rfl) ?_
    refine reg_nil ?_
    refine hK69 _ _ ?_
    refine wp_cond_false (ev_hit hN51 rfl) ?_
    refine wp_skip ?_
    refine hK68 _ _ ?_
    refine seq_any fun K72 hK72 => ?_
    refine one_reg ?_
    have htm := tmod_lt (n := opN (L.getD i dOp)) (k := 8) (by decide)
    have hlg := lightB_ok c31
    have ht8 : (tix 8 (opN (L.getD i dOp))) < 8 := tix_lt (by decide) _
    have hI8 := hR.1
    have hS8 := hR.2.1
    refine op_field fld103_1 (ev_hit hN51 rfl) ?_
    refine op_load1 (v := (Value.int .i64 (opN (L.getD i dOp)))) one3 (ev_hit hN51 rfl) (hB62.cell rfl) ?_
    refine op_rem (r := (Int.tmod (opN (L.getD i dOp)) 8)) (ev_hit hN51 rfl) rfl (by decide) rfl ?_
    refine op_add (ev_hit hN51 rfl) rfl (add64 (by omega)) ?_
    refine op_rem (r := (((tix 8 (opN (L.getD i dOp))) : Nat) : Int)) (ev_hit hN51 rfl) rfl (by decide) (tix_eq (by decide) _) ?_
    refine op_assign (ev_hit hN51 rfl) ?_
    refine reg_nil ?_
    refine hK72 _ _ ?_
    refine seq_any fun K73 hK73 => ?_
    refine seq_any fun K74 hK74 => ?_
    refine one_reg ?_
    refine op_move (ev_hit hN51 rfl) ?_
    refine op_index_arr1 (j := (tix 8 (opN (L.getD i dOp)))) arr100 (ev_base hN51 rfl s51_4) (ev_hit hN51 rfl) (by omega) (by omega) ?_
    refine op_load1 (v := (Value.bool (IN.getD (tix 8 (opN (L.getD i dOp))) false))) one4 (ev_hit hN51 rfl) (hIN.cell (row_at (d := false) (by first | omega | (simp only [List.length_set]; omega)))) ?_
    refine op_not (ev_hit hN51 rfl) ?_
    refine reg_nil ?_
    refine hK74 _ _ ?_
    refine wp_cond_split (ev_hit hN51 rfl) (fun c41 => ?_) (fun c41 => ?_)
    · -- 41T
     refine seq_any fun K75 hK75 => ?_
     refine one_reg ?_
     refine op_move (ev_hit hN51 rfl) ?_
     refine op_move (ev_hit hN51 rfl) ?_
     refine op_move (ev_base hN51 rfl s51_6) ?_
     refine op_conv (r := ((i : Nat) : Int)) (ev_hit hN51 rfl) us3 Try.underlying61 (wrap_u64 (by omega)) ?_
     refine op_index_arr1 (j := (tix 8 (opN (L.getD i dOp)))) arr100 (ev_base hN51 rfl s51_4) (ev_hit hN51 rfl) (by omega) (by omega) ?_
     have hIN_old := hIN
     refine op_store_row (v := (Value.bool true)) size4 (ev_hit hN51 rfl) rfl rfl rfl hIN (by rw [List.length_map]; omega) ?_
     intro w76 hIN E77
     have z_w76 := E77.size
     have hr := hr.keep E77 (fun k hk => .inr (by simp at hk; omega))
     have hls : ∀ x9 ∈ (L.map opLab), RdC w76 0 w.heap.size 1 x9.1 x9.2.length (x9.2.map u16v) := fun x9 hx9 => (hls x9 hx9).keep E77 (fun k hk => .inr (by simp at hk; omega))
     have hrs : ∀ x9 ∈ (L.map opRds), RdC w76 0 w.heap.size 1 x9.1 x9.2.length (x9.2.map sv) := fun x9 hx9 => (hrs x9 hx9).keep E77 (fun k hk => .inr (by simp at hk; omega))
     have hK := hK.keepG (Gr.of E77) (Dj.one djb39)
     have hST := hST.keep E77 (fun hh => hST.ne hIN_old (by decide) (Option.some.inj hh))
     have hLi := hLi.keep E77 (fun k hk => .inr (by simp at hk; omega))
     have hRi := hRi.keep E77 (fun k hk => .inr (by simp at hk; omega))
     have hB62 := hB62.keep E77 (fun hh => hB62.ne hIN_old (by decide) (Option.some.inj hh))
     have hb := below_step1 hb E77 hb.size (by omega)
     have hIN : Bx w76 b39 100 (((IN.set (tix 8 (opN (L.getD i dOp))) true).map Value.bool)) := row_set hIN
     refine op_index_arr1 (j := (tix 8 (opN (L.getD i dOp)))) arr101 (ev_base hN51 rfl s51_5) (ev_hit hN51 rfl) (by omega) (by omega) ?_
     have hST_old := hST
     refine op_store_row (v := (Value.int .u64 ((i : Nat) : Int))) size61 (ev_hit hN51 rfl) (ev_hit hN51 rfl) rfl rfl hST (by rw [List.length_map]; omega) ?_
     intro w78 hST E79
     have z_w78 := E79.size
     have hr := hr.keep E79 (fun k hk => .inr (by simp at hk; omega))
     have hls : ∀ x9 ∈ (L.map opLab), RdC w78 0 w.heap.size 1 x9.1 x9.2.length (x9.2.map u16v) := fun x9 hx9 => (hls x9 hx9).keep E79 (fun k hk => .inr (by simp at hk; omega))
     have hrs : ∀ x9 ∈ (L.map opRds), RdC w78 0 w.heap.size 1 x9.1 x9.2.length (x9.2.map sv) := fun x9 hx9 => (hrs x9 hx9).keep E79 (fun k hk => .inr (by simp at hk; omega))
     have hK := hK.keepG (Gr.of E79) (Dj.one djb45)
     have hLi := hLi.keep E79 (fun k hk => .inr (by simp at hk; omega))
     have hRi := hRi.keep E79 (fun k hk => .inr (by simp at hk; omega))
     have hB62 := hB62.keep E79 (fun hh => hB62.ne hST_old (by decide) (Option.some.inj hh))
     have hIN := hIN.keep E79 (fun hh => hIN.ne hST_old (by decide) (Option.some.inj hh))
     have hb := below_step1 hb E79 hb.size (by omega)
     have hST : Bx w78 b45 101 (((ST.set (tix 8 (opN (L.getD i dOp))) i).map nU)) := row_set hST
     refine reg_nil ?_
     refine hK75 _ _ ?_
     refine seq_any fun K80 hK80 => ?_
     refine one_reg ?_
     have hE := hR.enter (t := (tix 8 (opN (L.getD i dOp)))) (ST2 := ST.set (tix 8 (opN (L.getD i dOp))) i) (s := (((ST.set (tix 8 (opN (L.getD i dOp))) i).getD (tix 8 (opN (L.getD i dOp))) 0 : Nat) : Int)) ht8 (by simpa using c41) ⟨by simp [hS8], fun q hq => by rw [getD_set (by omega), if_neg hq]⟩ rfl
     refine op_move (ev_base hN51 rfl s51_3) ?_
     refine op_move (ev_hit hN51 rfl) ?_
     refine op_move (ev_hit hN51 rfl) ?_
     refine op_index_arr1 (j := (tix 8 (opN (L.getD i dOp)))) arr101 (ev_base hN51 rfl s51_5) (ev_hit hN51 rfl) (by omega) (by omega) ?_
     refine op_load1 (v := (Value.int .u64 ((((ST.set (tix 8 (opN (L.getD i dOp))) i).getD (tix 8 (opN (L.getD i dOp))) 0) : Nat) : Int))) one61 (ev_hit hN51 rfl) (hST.cell (row_at (d := 0) (by first | omega | (simp only [List.length_set]; omega)))) ?_
     refine op_fn (vs := [(ptr k34 0), (Value.int .i64 (((tix 8 (opN (L.getD i dOp))) : Nat) : Int)), (Value.slice none 0 0), (Value.int .u64 ((((ST.set (tix 8 (opN (L.getD i dOp))) i).getD (tix 8 (opN (L.getD i dOp))) 0) : Nat) : Int))]) ok54 ⟨(ev_hit hN51 rfl), ⟨(ev_hit hN51 rfl), ⟨rfl, ⟨(ev_hit hN51 rfl), trivial⟩⟩⟩⟩ (EnterR (n := (((tix 8 (opN (L.getD i dOp))) : Nat) : Int)) (s := ((((ST.set (tix 8 (opN (L.getD i dOp))) i).getD (tix 8 (opN (L.getD i dOp))) 0) : Nat) : Int)) (l := ([] : List UInt16)) (by omega) (lo := 0) (RdC.nil _ _ _ _) (Nat.zero_le _) (by first | decide | omega) hK) ?_
     rintro _ w82 ⟨E83, rfl, F81, hl81, hN81⟩
     have bd84 := hB62.lt
     have bd85 := hIN.lt
     have bd86 := hST.lt
     have hK_old := hK
     have z_w82 := E83.size
     have hr := hr.keepG E83 (fun k hk => .inr (by have := hK_old.lt k hk; omega))
     have hls : ∀ x9 ∈ (L.map opLab), RdC w82 0 w.heap.size 1 x9.1 x9.2.length (x9.2.map u16v) := fun x9 hx9 => (hls x9 hx9).keepG E83 (fun k hk => .inr (by have := hK_old.lt k hk; omega))
     have hrs : ∀ x9 ∈ (L.map opRds), RdC w82 0 w.heap.size 1 x9.1 x9.2.length (x9.2.map sv) := fun x9 hx9 => (hrs x9 hx9).keepG E83 (fun k hk => .inr (by have := hK_old.lt k hk; omega))
     have hLi := hLi.keepG E83 (fun k hk => .inr (by have := hK_old.lt k hk; omega))
     have hRi := hRi.keepG E83 (fun k hk => .inr (by have := hK_old.lt k hk; omega))
     have hB62 := hB62.keepG E83 dj63
     have hIN := hIN.keepG E83 djb39
     have hST := hST.keepG E83 djb45
     have hb := below_stepG hb E83 hb.size (fun k hk => (hK_old.lt k hk).1)
     have dj87 : ¬ F81 b60 := ne_stepF hN81 bd84 dj63
     have dj88 : ¬ F81 b39 := ne_stepF hN81 bd85 djb39
     have dj89 : ¬ F81 b45 := ne_stepF hN81 bd86 djb45
     refine op_neq (ev_hit hN51 rfl) rfl (fun c54 => ?_) (fun c54 => ?_)
     · -- 54T
      exact absurd hE.1 c54
     · -- 54F
      refine reg_nil ?_
      refine hK80 _ _ ?_
      refine wp_cond_false (ev_hit hN51 rfl) ?_
      refine wp_skip ?_
      refine hK73 _ _ ?_
      refine seq_any fun K90 hK90 => ?_
      refine one_reg ?_
      have hR2 := hE.2
      have hIT : (IN.set (tix 8 (opN (L.getD i dOp))) true).getD (tix 8 (opN (L.getD i dOp))) false = true := by rw [getD_set (by have := hR.1; omega)]; exact if_pos rfl
      have hI9 := hR2.1
      have hS9 := hR2.2.1
      refine op_assign rfl ?_
      refine op_assign rfl ?_
      refine reg_nil ?_
      refine hK90 _ _ ?_
      refine seq_any fun K91 hK91 => ?_
      refine seq_any fun K92 hK92 => ?_
      refine one_reg ?_
      refine op_assign rfl ?_
      refine reg_nil ?_
      refine hK92 _ _ ?_
      refine wp_block ?_
      refine loop_m (fun mz_ az_ w' => ∃ (j : Nat), mz_ = 8 - j ∧ (az_.tmps.getD 0 undef = vL) ∧ (az_.tmps.getD 3 undef = (ptr k34 0)) ∧ (az_.tmps.getD 4 undef = (ptr b39 0)) ∧ (az_.tmps.getD 5 undef = (ptr b45 0)) ∧ (az_.tmps.getD 6 undef = (Value.int .i64 ((i : Nat) : Int))) ∧ (az_.tmps.getD 7 undef = (ptr b60 0)) ∧ (az_.tmps.getD 8 undef = (Value.int .i64 (((tix 8 (opN (L.getD i dOp))) : Nat) : Int))) ∧ (az_.tmps.getD 11 undef = (Value.int .i64 ((j : Nat) : Int))) ∧ (az_.tmps.getD 9 undef = (Value.bool (eldB (IN.set (tix 8 (opN (L.getD i dOp))) true) (ST.set (tix 8 (opN (L.getD i dOp))) i) (tix 8 (opN (L.getD i dOp))) j))) ∧ (az_.tmps.getD 10 undef = (Value.bool (aloB (IN.set (tix 8 (opN (L.getD i dOp))) true) (tix 8 (opN (L.getD i dOp))) j))) ∧ (j ≤ 8) ∧ (Below w.heap.size w w') ∧ (w82.heap.size ≤ w'.heap.size) ∧ (RdC w' 0 w.heap.size 6 vL L.length (L.flatMap cellsOp)) ∧ (∀ x9 ∈ (L.map opLab), RdC w' 0 w.heap.size 1 x9.1 x9.2.length (x9.2.map u16v)) ∧ (∀ x9 ∈ (L.map opRds), RdC w' 0 w.heap.size 1 x9.1 x9.2.length (x9.2.map sv)) ∧ (RdC w' 0 w.heap.size 1 (opLv (L.getD i dOp)) (opL (L.getD i dOp)).length ((opL (L.getD i dOp)).map u16v)) ∧ (RdC w' 0 w.heap.size 1 (opRv (L.getD i dOp)) (opR (L.getD i dOp)).length ((opR (L.getD i dOp)).map sv)) ∧ (Bx w' b60 103 [(Value.int .i64 (opK (L.getD i dOp))), (Value.int .i64 (opN (L.getD i dOp))), (opLv (L.getD i dOp)), (Value.int .u64 ((opS (L.getD i dOp)).toNat : Int)), (opRv (L.getD i dOp)), (Value.string (bs (opW (L.getD i dOp))))]) ∧ (Bx w' b39 100 (((IN.set (tix 8 (opN (L.getD i dOp))) true).map Value.bool))) ∧ (Bx w' b45 101 (((ST.set (tix 8 (opN (L.getD i dOp))) i).map nU))) ∧ (LocksR w' w.heap.size k34 (enterM M (((tix 8 (opN (L.getD i dOp))) : Nat) : Int) ([] : List UInt16) ((((ST.set (tix 8 (opN (L.getD i dOp))) i).getD (tix 8 (opN (L.getD i dOp))) 0) : Nat) : Int)) F81)) _ hN51 hd51 ⟨0, rfl, (sl_base hN51 rfl s51_0), (sl_base hN51 rfl s51_3), (sl_base hN51 rfl s51_4), (sl_base hN51 rfl s51_5), (sl_base hN51 rfl s51_6), (sl_hit hN51 rfl), (sl_hit hN51 rfl), (sl_hit hN51 rfl), (sl_hit hN51 rfl), (sl_hit hN51 rfl), (Nat.zero_le _), hb, (Nat.le_refl _), hr, hls, hrs, hLi, hRi, hB62, hIN, hST, hl81⟩ ?_
      rintro _ a93 w93 hN93 hd93 ⟨j, rfl, s93_0, s93_3, s93_4, s93_5, s93_6, s93_7, s93_8, s93_11, s93_9, s93_10, hj, hb, zl_w93, hr, hls, hrs, hLi, hRi, hB62, hIN, hST, hl81⟩
      have z_w93 := hb.size
      refine seq_any fun K94 hK94 => ?_
      refine seq_any fun K95 hK95 => ?_
      refine one_reg ?_
      refine op_move (ev_base hN93 rfl s93_11) ?_
      refine op_lss (ev_hit hN93 rfl) rfl (fun c56 => ?_) (fun c56 => ?_)
      · -- 56T
       refine reg_nil ?_
       refine hK95 _ _ ?_
       refine wp_cond_true (ev_hit hN93 rfl) ?_
       refine wp_skip ?_
       refine hK94 _ _ ?_
       refine seq_any fun K96 hK96 => ?_
       refine wp_block ?_
       refine seq_any fun K97 hK97 => ?_
       refine one_reg ?_
       refine op_move (ev_base hN93 rfl s93_11) ?_
       refine op_move (ev_base hN93 rfl s93_8) ?_
       refine op_neq (ev_hit hN93 rfl) (ev_hit hN93 rfl) (fun c61 => ?_) (fun c61 => ?_)
       · -- 61T
        refine op_move (ev_hit hN93 rfl) ?_
        refine g_true (j := 3) (dj := 62) (b := true) rfl rfl rfl (ev_hit hN93 rfl) ?_
        refine op_move (ev_base hN93 rfl s93_11) ?_
        refine g_true (j := 3) (dj := 62) (b := true) rfl rfl rfl (ev_hit hN93 rfl) ?_
        refine op_index_arr1 (j := j) arr100 (ev_base hN93 rfl s93_4) (ev_hit hN93 rfl) (by omega) (by omega) ?_
        refine g_true (j := 3) (dj := 62) (b := true) rfl rfl rfl (ev_hit hN93 rfl) ?_
        refine op_load1 (v := (Value.bool ((IN.set (tix 8 (opN (L.getD i dOp))) true).getD j false))) one4 (ev_hit hN93 rfl) (hIN.cell (row_at (d := false) (by first | omega | (simp only [List.length_set]; omega)))) ?_
        refine op_pick_t (ev_hit hN93 rfl) (ev_hit hN93 rfl) ?_
        refine reg_nil ?_
        refine hK97 _ _ ?_
        refine wp_cond_split (ev_hit hN93 rfl) (fun c66 => ?_) (fun c66 => ?_)
        · -- 66T
         refine reg_still mixed (by kernel_rfl) ?_
         intro w99 E98
         have z_w99 := E98.size
         have hr := hr.keep0 E98
         have hls : ∀ x9 ∈ (L.map opLab), RdC w99 0 w.heap.size 1 x9.1 x9.2.length (x9.2.map u16v) := fun x9 hx9 => (hls x9 hx9).keep0 E98
         have hrs : ∀ x9 ∈ (L.map opRds), RdC w99 0 w.heap.size 1 x9.1 x9.2.length (x9.2.map sv) := fun x9 hx9 => (hrs x9 hx9).keep0 E98
         have hLi := hLi.keep0 E98
         have hRi := hRi.keep0 E98
         have hB62 := hB62.keep0 E98
         have hIN := hIN.keep0 E98
         have hST := hST.keep0 E98
         have hl81 := hl81.keepG (Gr.of0 E98 NoB) (fun _ _ h => h)
         have hb := below_step0 hb E98 hb.size
         refine st_step rfl (fun _ h9 => op_move (ev_base hN93 rfl s93_9) h9) ?_
         rcases Bool.eq_false_or_eq_true ((eldB (IN.set (tix 8 (opN (L.getD i dOp))) true) (ST.set (tix 8 (opN (L.getD i dOp))) i) (tix 8 (opN (L.getD i dOp))) j)) with g67 | g67
         · -- 67T
          rw [g67]
          refine st_step rfl (fun _ h9 => op_move (ev_hit hN93 rfl) h9) ?_
          refine st_g_true (j := 1) (dj := 68) (b := true) rfl rfl rfl (ev_hit hN93 rfl) ?_
          refine st_step rfl (fun _ h9 => op_move (ev_base hN93 rfl s93_8) h9) ?_
          refine st_g_true (j := 1) (dj := 68) (b := true) rfl rfl rfl (ev_hit hN93 rfl) ?_
          refine st_step rfl (fun _ h9 => op_index_arr1 (j := (tix 8 (opN (L.getD i dOp)))) arr101 (ev_base hN93 rfl s93_5) (ev_hit hN93 rfl) (by omega) (by omega) h9) ?_
          refine st_g_true (j := 1) (dj := 68) (b := true) rfl rfl rfl (ev_hit hN93 rfl) ?_
          refine st_step rfl (fun _ h9 => op_load1 (v := (Value.int .u64 ((((ST.set (tix 8 (opN (L.getD i dOp))) i).getD (tix 8 (opN (L.getD i dOp))) 0) : Nat) : Int))) one61 (ev_hit hN93 rfl) (hST.cell (row_at (d := 0) (by first | omega | (simp only [List.length_set]; omega)))) h9) ?_
          refine st_g_true (j := 1) (dj := 68) (b := true) rfl rfl rfl (ev_hit hN93 rfl) ?_
          refine st_step rfl (fun _ h9 => op_move (ev_base hN93 rfl s93_11) h9) ?_
          refine st_g_true (j := 1) (dj := 68) (b := true) rfl rfl rfl (ev_hit hN93 rfl) ?_
          refine st_step rfl (fun _ h9 => op_index_arr1 (j := j) arr101 (ev_base hN93 rfl s93_5) (ev_hit hN93 rfl) (by omega) (by omega) h9) ?_
          refine st_g_true (j := 1) (dj := 68) (b := true) rfl rfl rfl (ev_hit hN93 rfl) ?_
          refine st_step rfl (fun _ h9 => op_load1 (v := (Value.int .u64 ((((ST.set (tix 8 (opN (L.getD i dOp))) i).getD j 0) : Nat) : Int))) one61 (ev_hit hN93 rfl) (hST.cell (row_at (d := 0) (by first | omega | (simp only [List.length_set]; omega)))) h9) ?_
          refine st_g_true (j := 1) (dj := 68) (b := true) rfl rfl rfl (ev_hit hN93 rfl) ?_
          refine st_step rfl (fun _ h9 => op_cmp (b := (decide (((((ST.set (tix 8 (opN (L.getD i dOp))) i).getD (tix 8 (opN (L.getD i dOp))) 0) : Nat) : Int) < ((((ST.set (tix 8 (opN (L.getD i dOp))) i).getD j 0) : Nat) : Int)))) (ev_hit hN93 rfl) (ev_hit hN93 rfl) (b_lss rfl) h9) ?_
          refine st_step rfl (fun _ h9 => op_pick_t (ev_hit hN93 rfl) (ev_hit hN93 rfl) h9) ?_
          have hR2 := hE.2
          have hIT : (IN.set (tix 8 (opN (L.getD i dOp))) true).getD (tix 8 (opN (L.getD i dOp))) false = true := by rw [getD_set (by have := hR.1; omega)]; exact if_pos rfl
          have hI9 := hR2.1
          have hS9 := hR2.2.1
          refine st_step rfl (fun _ h9 => op_assign (ev_hit hN93 rfl) h9) ?_
          refine st_step rfl (fun _ h9 => op_assign rfl h9) ?_
          refine st_nil ?_
          refine hK96 _ _ ?_
          refine one_reg ?_
          refine op_move (ev_base hN93 rfl s93_11) ?_
          refine op_add (ev_hit hN93 rfl) rfl (add64 (by omega)) ?_
          refine op_assign (ev_hit hN93 rfl) ?_
          refine reg_nil ?_
          -- round 18F 23T 31T 41T 54F 56T 61T 66T 67T
          have hjt : decide (j ≠ (tix 8 (opN (L.getD i dOp)))) = true := decide_eq_true (by omega)
          exact loop_next _ hN93 hd93 ⟨(j + 1), rfl, (sl_base hN93 rfl s93_0), (sl_base hN93 rfl s93_3), (sl_base hN93 rfl s93_4), (sl_base hN93 rfl s93_5), (sl_base hN93 rfl s93_6), (sl_base hN93 rfl s93_7), (sl_base hN93 rfl s93_8), (sl_hit hN93 rfl).trans (congrArg (Value.int .i64) (by omega)), (sl_hit hN93 rfl).trans (congrArg Value.bool (by rw [eldB_step, hjt, c66, g67]; simp)), (sl_hit hN93 rfl).trans (congrArg Value.bool (by rw [aloB_step, hjt, c66]; simp)), (by omega), hb, (by omega), hr, hls, hrs, hLi, hRi, hB62, hIN, hST, hl81⟩ (by omega)
         · -- 67F
          rw [g67]
          refine st_step rfl (fun _ h9 => op_move (ev_hit hN93 rfl) h9) ?_
          refine st_g_false (j := 1) (dj := 68) (b := true) rfl rfl rfl (ev_hit hN93 rfl) rfl rfl ?_
          refine st_g_false (j := 1) (dj := 68) (b := true) rfl rfl rfl (ev_hit hN93 rfl) rfl rfl ?_
          refine st_g_false (j := 1) (dj := 68) (b := true) rfl rfl rfl (ev_hit hN93 rfl) rfl rfl ?_
          refine st_g_false (j := 1) (dj := 68) (b := true) rfl rfl rfl (ev_hit hN93 rfl) rfl rfl ?_
          refine st_g_false (j := 1) (dj := 68) (b := true) rfl rfl rfl (ev_hit hN93 rfl) rfl rfl ?_
          refine st_g_false (j := 1) (dj := 68) (b := true) rfl rfl rfl (ev_hit hN93 rfl) rfl rfl ?_
          refine st_g_false (j := 1) (dj := 68) (b := true) rfl rfl rfl (ev_hit hN93 rfl) rfl rfl ?_
          refine st_step rfl (fun _ h9 => op_pick_f (ev_hit hN93 rfl) rfl h9) ?_
          have hR2 := hE.2
          have hIT : (IN.set (tix 8 (opN (L.getD i dOp))) true).getD (tix 8 (opN (L.getD i dOp))) false = true := by rw [getD_set (by have := hR.1; omega)]; exact if_pos rfl
          have hI9 := hR2.1
          have hS9 := hR2.2.1
          refine st_step rfl (fun _ h9 => op_assign (ev_hit hN93 rfl) h9) ?_
          refine st_step rfl (fun _ h9 => op_assign rfl h9) ?_
          refine st_nil ?_
          refine hK96 _ _ ?_
          refine one_reg ?_
          refine op_move (ev_base hN93 rfl s93_11) ?_
          refine op_add (ev_hit hN93 rfl) rfl (add64 (by omega)) ?_
          refine op_assign (ev_hit hN93 rfl) ?_
          refine reg_nil ?_
          -- round 18F 23T 31T 41T 54F 56T 61T 66T 67F
          have hjt : decide (j ≠ (tix 8 (opN (L.getD i dOp)))) = true := decide_eq_true (by omega)
          exact loop_next _ hN93 hd93 ⟨(j + 1), rfl, (sl_base hN93 rfl s93_0), (sl_base hN93 rfl s93_3), (sl_base hN93 rfl s93_4), (sl_base hN93 rfl s93_5), (sl_base hN93 rfl s93_6), (sl_base hN93 rfl s93_7), (sl_base hN93 rfl s93_8), (sl_hit hN93 rfl).trans (congrArg (Value.int .i64) (by omega)), (sl_hit hN93 rfl).trans (congrArg Value.bool (by rw [eldB_step, hjt, c66, g67]; simp)), (sl_hit hN93 rfl).trans (congrArg Value.bool (by rw [aloB_step, hjt, c66]; simp)), (by omega), hb, (by omega), hr, hls, hrs, hLi, hRi, hB62, hIN, hST, hl81⟩ (by omega)
        · -- 66F
         refine wp_skip ?_
         refine hK96 _ _ ?_
         refine one_reg ?_
         refine op_move (ev_base hN93 rfl s93_11) ?_
         refine op_add (ev_hit hN93 rfl) rfl (add64 (by omega)) ?_
         refine op_assign (ev_hit hN93 rfl) ?_
         refine reg_nil ?_
         -- round 18F 23T 31T 41T 54F 56T 61T 66F
         have hjt : decide (j ≠ (tix 8 (opN (L.getD i dOp)))) = true := decide_eq_true (by omega)
         exact loop_next _ hN93 hd93 ⟨(j + 1), rfl, (sl_base hN93 rfl s93_0), (sl_base hN93 rfl s93_3), (sl_base hN93 rfl s93_4), (sl_base hN93 rfl s93_5), (sl_base hN93 rfl s93_6), (sl_base hN93 rfl s93_7), (sl_base hN93 rfl s93_8), (sl_hit hN93 rfl).trans (congrArg (Value.int .i64) (by omega)), (sl_base hN93 rfl s93_9).trans (congrArg Value.bool (by rw [eldB_step, hjt, c66]; simp)), (sl_base hN93 rfl s93_10).trans (congrArg Value.bool (by rw [aloB_step, hjt, c66]; simp)), (by omega), hb, (by omega), hr, hls, hrs, hLi, hRi, hB62, hIN, hST, hl81⟩ (by omega)
       · -- 61F
        refine op_move (ev_hit hN93 rfl) ?_
        refine g_false (j := 3) (dj := 62) (b := true) rfl rfl rfl (ev_hit hN93 rfl) rfl rfl ?_
        refine g_false (j := 3) (dj := 62) (b := true) rfl rfl rfl (ev_hit hN93 rfl) rfl rfl ?_
        refine g_false (j := 3) (dj := 62) (b := true) rfl rfl rfl (ev_hit hN93 rfl) rfl rfl ?_
        refine op_pick_f (ev_hit hN93 rfl) rfl ?_
        refine reg_nil ?_
        refine hK97 _ _ ?_
        refine wp_cond_false (ev_hit hN93 rfl) ?_
        refine wp_skip ?_
        refine hK96 _ _ ?_
        refine one_reg ?_
        refine op_move (ev_base hN93 rfl s93_11) ?_
        refine op_add (ev_hit hN93 rfl) rfl (add64 (by omega)) ?_
        refine op_assign (ev_hit hN93 rfl) ?_
        refine reg_nil ?_
        -- round 18F 23T 31T 41T 54F 56T 61F
        have hjt : decide (j ≠ (tix 8 (opN (L.getD i dOp)))) = false := decide_eq_false (by omega)
        exact loop_next _ hN93 hd93 ⟨(j + 1), rfl, (sl_base hN93 rfl s93_0), (sl_base hN93 rfl s93_3), (sl_base hN93 rfl s93_4), (sl_base hN93 rfl s93_5), (sl_base hN93 rfl s93_6), (sl_base hN93 rfl s93_7), (sl_base hN93 rfl s93_8), (sl_hit hN93 rfl).trans (congrArg (Value.int .i64) (by omega)), (sl_base hN93 rfl s93_9).trans (congrArg Value.bool (by rw [eldB_step, hjt]; simp)), (sl_base hN93 rfl s93_10).trans (congrArg Value.bool (by rw [aloB_step, hjt]; simp)), (by omega), hb, (by omega), hr, hls, hrs, hLi, hRi, hB62, hIN, hST, hl81⟩ (by omega)
      · -- 56F
       refine reg_nil ?_
       refine hK95 _ _ ?_
       refine wp_cond_false (ev_hit hN93 rfl) ?_
       refine wp_exit (then_exit (then_exit (blk_hit ?_)))
       refine hK91 _ _ ?_
       refine seq_any fun K100 hK100 => ?_
       refine one_reg ?_
       have hAk := hR2.ask (t := (tix 8 (opN (L.getD i dOp)))) (R := opR (L.getD i dOp)) (x := opW (L.getD i dOp)) ht8 hIT hlg.2.1
       have hj8 : j = 8 := by omega
       refine op_move (ev_base hN93 rfl s93_3) ?_
       refine op_move (ev_base hN93 rfl s93_8) ?_
       refine op_field fld103_4 (ev_base hN93 rfl s93_7) ?_
       refine op_load1 (v := (opRv (L.getD i dOp))) one26 (ev_hit hN93 rfl) (hB62.cell rfl) ?_
       refine op_field fld103_5 (ev_base hN93 rfl s93_7) ?_
       refine op_load1 (v := (Value.string (bs (opW (L.getD i dOp))))) one9 (ev_hit hN93 rfl) (hB62.cell rfl) ?_
       refine op_fn (vs := [(ptr k34 0), (Value.int .i64 (((tix 8 (opN (L.getD i dOp))) : Nat) : Int)), (opRv (L.getD i dOp)), (Value.string (bs (opW (L.getD i dOp))))]) ok55 ⟨(ev_hit hN93 rfl), ⟨(ev_hit hN93 rfl), ⟨(ev_hit hN93 rfl), ⟨(ev_hit hN93 rfl), trivial⟩⟩⟩⟩ (AskR (n := (((tix 8 (opN (L.getD i dOp))) : Nat) : Int)) (Rs := (opR (L.getD i dOp))) (x := (opW (L.getD i dOp))) (by omega) (hE.2.2.2.1.ok (by omega)) (hE.2.2.2.1.sm (by omega)) (by have := hlg.2.1; omega) hRi (by omega) (fun y hy => .inr (hl81.lt y hy).1) hl81) ?_
       rintro _ w102 ⟨E103, rfl, F101, hl101, hN101⟩
       have bd104 := hB62.lt
       have bd105 := hIN.lt
       have bd106 := hST.lt
       have hl81_old := hl81
       have z_w102 := E103.size
       have hr := hr.keepG E103 (fun k hk => .inr (by have := hl81_old.lt k hk; omega))
       have hls : ∀ x9 ∈ (L.map opLab), RdC w102 0 w.heap.size 1 x9.1 x9.2.length (x9.2.map u16v) := fun x9 hx9 => (hls x9 hx9).keepG E103 (fun k hk => .inr (by have := hl81_old.lt k hk; omega))
       have hrs : ∀ x9 ∈ (L.map opRds), RdC w102 0 w.heap.size 1 x9.1 x9.2.length (x9.2.map sv) := fun x9 hx9 => (hrs x9 hx9).keepG E103 (fun k hk => .inr (by have := hl81_old.lt k hk; omega))
       have hLi := hLi.keepG E103 (fun k hk => .inr (by have := hl81_old.lt k hk; omega))
       have hRi := hRi.keepG E103 (fun k hk => .inr (by have := hl81_old.lt k hk; omega))
       have hB62 := hB62.keepG E103 dj87
       have hIN := hIN.keepG E103 dj88
       have hST := hST.keepG E103 dj89
       have hb := below_stepG hb E103 hb.size (fun k hk => (hl81_old.lt k hk).1)
       have dj107 : ¬ F101 b60 := ne_stepF hN101 bd104 dj87
       have dj108 : ¬ F101 b39 := ne_stepF hN101 bd105 dj88
       have dj109 : ¬ F101 b45 := ne_stepF hN101 bd106 dj89
       refine op_move (ev_hit hN93 rfl) ?_
       refine op_extract (ev_hit hN93 rfl) rfl ?_
       refine op_extract (ev_hit hN93 rfl) rfl ?_
       refine op_assign (ev_hit hN93 rfl) ?_
       refine op_assign (ev_hit hN93 rfl) ?_
       refine reg_nil ?_
       refine hK100 _ _ ?_
       refine seq_any fun K110 hK110 => ?_
       refine seq_any fun K111 hK111 => ?_
       refine one_reg ?_
       refine op_move (ev_hit hN93 rfl) ?_
       refine op_neq (ev_hit hN93 rfl) rfl (fun c88 => ?_) (fun c88 => ?_)
       · -- 88T
        exact absurd hAk.1 c88
       · -- 88F
        refine op_move (ev_hit hN93 rfl) ?_
        refine g_true (j := 2) (dj := 89) (b := false) rfl rfl rfl (ev_hit hN93 rfl) ?_
        rcases Bool.eq_false_or_eq_true ((eldB (IN.set (tix 8 (opN (L.getD i dOp))) true) (ST.set (tix 8 (opN (L.getD i dOp))) i) (tix 8 (opN (L.getD i dOp))) j)) with c90 | c90
        · -- 90T
         try rw [c90]
         refine op_move ((ev_base hN93 rfl s93_9).trans (congrArg Value.bool c90)) ?_
         refine g_true (j := 2) (dj := 89) (b := false) rfl rfl rfl (ev_hit hN93 rfl) ?_
         refine op_move (ev_hit hN93 rfl) ?_
         refine g_true (j := 4) (dj := 91) (b := true) rfl rfl rfl (ev_hit hN93 rfl) ?_
         refine op_move (ev_hit hN93 rfl) ?_
         refine g_true (j := 4) (dj := 91) (b := true) rfl rfl rfl (ev_hit hN93 rfl) ?_
         refine op_eql (ev_hit hN93 rfl) rfl (fun c93 => ?_) (fun c93 => ?_)
         · -- 93T
          exact absurd c93 (hAk.2.2.1 (by rw [hj8] at c90; exact c90))
         · -- 93F
          refine g_true (j := 2) (dj := 89) (b := false) rfl rfl rfl (ev_hit hN93 rfl) ?_
          refine op_pick_t (ev_hit hN93 rfl) (ev_hit hN93 rfl) ?_
          refine op_pick_f (ev_hit hN93 rfl) (ev_hit hN93 rfl) ?_
          refine op_move (ev_hit hN93 rfl) ?_
          refine g_true (j := 9) (dj := 96) (b := false) rfl rfl rfl (ev_hit hN93 rfl) ?_
          rcases Bool.eq_false_or_eq_true ((aloB (IN.set (tix 8 (opN (L.getD i dOp))) true) (tix 8 (opN (L.getD i dOp))) j)) with c97 | c97
          · -- 97T
           try rw [c97]
           refine op_move ((ev_base hN93 rfl s93_10).trans (congrArg Value.bool c97)) ?_
           refine g_true (j := 9) (dj := 96) (b := false) rfl rfl rfl (ev_hit hN93 rfl) ?_
           refine op_move (ev_hit hN93 rfl) ?_
           refine g_true (j := 11) (dj := 98) (b := true) rfl rfl rfl (ev_hit hN93 rfl) ?_
           refine op_move (ev_hit hN93 rfl) ?_
           refine g_true (j := 11) (dj := 98) (b := true) rfl rfl rfl (ev_hit hN93 rfl) ?_
           refine op_neq (ev_hit hN93 rfl) rfl (fun c100 => ?_) (fun c100 => ?_)
           · -- 100T
            exact absurd (hAk.2.2.2 (by rw [hj8] at c97; exact c97)) c100
           · -- 100F
            refine g_true (j := 9) (dj := 96) (b := false) rfl rfl rfl (ev_hit hN93 rfl) ?_
            refine op_pick_t (ev_hit hN93 rfl) (ev_hit hN93 rfl) ?_
            refine op_pick_f (ev_hit hN93 rfl) (ev_hit hN93 rfl) ?_
            refine reg_nil ?_
            refine hK111 _ _ ?_
            refine wp_cond_false (ev_hit hN93 rfl) ?_
            refine wp_skip ?_
            refine hK110 _ _ ?_
            refine seq_any fun K112 hK112 => ?_
            refine one_reg ?_
            refine op_move (ev_hit hN93 rfl) ?_
            refine op_eql (ev_hit hN93 rfl) rfl (fun c104 => ?_) (fun c104 => ?_)
            · -- 104T
             refine op_move (ev_hit hN93 rfl) ?_
             refine g_false (j := 2) (dj := 105) (b := false) rfl rfl rfl (ev_hit hN93 rfl) rfl rfl ?_
             refine g_false (j := 2) (dj := 105) (b := false) rfl rfl rfl (ev_hit hN93 rfl) rfl rfl ?_
             refine g_false (j := 2) (dj := 105) (b := false) rfl rfl rfl (ev_hit hN93 rfl) rfl rfl ?_
             refine g_false (j := 2) (dj := 105) (b := false) rfl rfl rfl (ev_hit hN93 rfl) rfl rfl ?_
             refine op_pick_t (ev_hit hN93 rfl) rfl ?_
             refine reg_nil ?_
             refine hK112 _ _ ?_
             refine wp_cond_true (ev_hit hN93 rfl) ?_
             refine seq_any fun K113 hK113 => ?_
             refine one_reg ?_
             have hLv := hAk.2.1.leave ht8 hIT
             refine op_move (ev_base hN93 rfl s93_8) ?_
             refine op_index_arr1 (j := (tix 8 (opN (L.getD i dOp)))) arr100 (ev_base hN93 rfl s93_4) (ev_hit hN93 rfl) (by omega) (by omega) ?_
             have hIN_old := hIN
             refine op_store_row (v := (Value.bool false)) size4 (ev_hit hN93 rfl) rfl rfl rfl hIN (by rw [List.length_map]; omega) ?_
             intro w114 hIN E115
             have z_w114 := E115.size
             have hr := hr.keep E115 (fun k hk => .inr (by simp at hk; omega))
             have hls : ∀ x9 ∈ (L.map opLab), RdC w114 0 w.heap.size 1 x9.1 x9.2.length (x9.2.map u16v) := fun x9 hx9 => (hls x9 hx9).keep E115 (fun k hk => .inr (by simp at hk; omega))
             have hrs : ∀ x9 ∈ (L.map opRds), RdC w114 0 w.heap.size 1 x9.1 x9.2.length (x9.2.map sv) := fun x9 hx9 => (hrs x9 hx9).keep E115 (fun k hk => .inr (by simp at hk; omega))
             have hLi := hLi.keep E115 (fun k hk => .inr (by simp at hk; omega))
             have hRi := hRi.keep E115 (fun k hk => .inr (by simp at hk; omega))
             have hB62 := hB62.keep E115 (fun hh => hB62.ne hIN_old (by decide) (Option.some.inj hh))
             have hST := hST.keep E115 (fun hh => hST.ne hIN_old (by decide) (Option.some.inj hh))
             have hl101 := hl101.keepG (Gr.of E115) (Dj.one dj108)
             have hb := below_step1 hb E115 hb.size (by omega)
             have hIN : Bx w114 b39 100 ((((IN.set (tix 8 (opN (L.getD i dOp))) true).set (tix 8 (opN (L.getD i dOp))) false).map Value.bool)) := row_set hIN
             refine reg_nil ?_
             refine hK113 _ _ ?_
             refine seq_any fun K116 hK116 => ?_
             refine one_reg ?_
             refine op_move (ev_base hN93 rfl s93_3) ?_
             refine op_move (ev_base hN93 rfl s93_8) ?_
             refine op_fn (vs := [(ptr k34 0), (Value.int .i64 (((tix 8 (opN (L.getD i dOp))) : Nat) : Int))]) ok57 ⟨(ev_hit hN93 rfl), ⟨(ev_hit hN93 rfl), trivial⟩⟩ (LeaveR (n := (((tix 8 (opN (L.getD i dOp))) : Nat) : Int)) (by omega) hl101) ?_
             rintro _ w118 ⟨E119, rfl, F117, hl117, hN117⟩
             have bd120 := hB62.lt
             have bd121 := hST.lt
             have bd122 := hIN.lt
             have hl101_old := hl101
             have z_w118 := E119.size
             have hr := hr.keepG E119 (fun k hk => .inr (by have := hl101_old.lt k hk; omega))
             have hls : ∀ x9 ∈ (L.map opLab), RdC w118 0 w.heap.size 1 x9.1 x9.2.length (x9.2.map u16v) := fun x9 hx9 => (hls x9 hx9).keepG E119 (fun k hk => .inr (by have := hl101_old.lt k hk; omega))
             have hrs : ∀ x9 ∈ (L.map opRds), RdC w118 0 w.heap.size 1 x9.1 x9.2.length (x9.2.map sv) := fun x9 hx9 => (hrs x9 hx9).keepG E119 (fun k hk => .inr (by have := hl101_old.lt k hk; omega))
             have hLi := hLi.keepG E119 (fun k hk => .inr (by have := hl101_old.lt k hk; omega))
             have hRi := hRi.keepG E119 (fun k hk => .inr (by have := hl101_old.lt k hk; omega))
             have hB62 := hB62.keepG E119 dj107
             have hST := hST.keepG E119 dj109
             have hIN := hIN.keepG E119 dj108
             have hb := below_stepG hb E119 hb.size (fun k hk => (hl101_old.lt k hk).1)
             have dj123 : ¬ F117 b60 := ne_stepF hN117 bd120 dj107
             have dj124 : ¬ F117 b45 := ne_stepF hN117 bd121 dj109
             have dj125 : ¬ F117 b39 := ne_stepF hN117 bd122 dj108
             refine op_neq (ev_hit hN93 rfl) rfl (fun c116 => ?_) (fun c116 => ?_)
             · -- 116T
              exact absurd hLv.1 c116
             · -- 116F
              refine reg_nil ?_
              refine hK116 _ _ ?_
              refine wp_cond_false (ev_hit hN93 rfl) ?_
              refine wp_skip ?_
              refine hK54 _ _ ?_
              refine one_reg ?_
              refine op_move (ev_base hN93 rfl s93_6) ?_
              refine op_add (ev_hit hN93 rfl) rfl (add64 (by omega)) ?_
              refine op_assign (ev_hit hN93 rfl) ?_
              refine reg_nil ?_
              -- round 18F 23T 31T 41T 54F 56F 88F 90T 93F 97T 100F 104T 116F
              exact loop_next _ hN93 hd93 ⟨(i + 1), mdel (askM (enterM M (((tix 8 (opN (L.getD i dOp))) : Nat) : Int) ([] : List UInt16) ((((ST.set (tix 8 (opN (L.getD i dOp))) i).getD (tix 8 (opN (L.getD i dOp))) 0) : Nat) : Int)) (((tix 8 (opN (L.getD i dOp))) : Nat) : Int) (opR (L.getD i dOp)) (opW (L.getD i dOp))) (((tix 8 (opN (L.getD i dOp))) : Nat) : Int), ((IN.set (tix 8 (opN (L.getD i dOp))) true).set (tix 8 (opN (L.getD i dOp))) false), (ST.set (tix 8 (opN (L.getD i dOp))) i), F117, rfl, (sl_base hN93 rfl s93_0), (sl_base hN93 rfl s93_3), (sl_base hN93 rfl s93_4), (sl_base hN93 rfl s93_5), (sl_hit hN93 rfl).trans (congrArg (Value.int .i64) (by omega)), (by omega), (hLv.2.mono (by omega)), dj125, dj124, hb, (by omega), hr, hls, hrs, hl117, hIN, hST⟩ (by omega)
            · -- 104F
             refine op_move (ev_hit hN93 rfl) ?_
             refine g_true (j := 2) (dj := 105) (b := false) rfl rfl rfl (ev_hit hN93 rfl) ?_
             refine op_field fld103_0 (ev_base hN93 rfl s93_7) ?_
             refine g_true (j := 2) (dj := 105) (b := false) rfl rfl rfl (ev_hit hN93 rfl) ?_
             refine op_load1 (v := (Value.int .i64 (opK (L.getD i dOp)))) one3 (ev_hit hN93 rfl) (hB62.cell rfl) ?_
             refine g_true (j := 2) (dj := 105) (b := false) rfl rfl rfl (ev_hit hN93 rfl) ?_
             refine op_rem (r := (Int.tmod (opK (L.getD i dOp)) 5)) (ev_hit hN93 rfl) rfl (by decide) rfl ?_
             refine g_true (j := 2) (dj := 105) (b := false) rfl rfl rfl (ev_hit hN93 rfl) ?_
             refine op_eql (ev_hit hN93 rfl) rfl (fun c109 => ?_) (fun c109 => ?_)
             · -- 109T
              refine op_pick_f (ev_hit hN93 rfl) (ev_hit hN93 rfl) ?_
              refine reg_nil ?_
              refine hK112 _ _ ?_
              refine wp_cond_true (ev_hit hN93 rfl) ?_
              refine seq_any fun K126 hK126 => ?_
              refine one_reg ?_
              have hLv := hAk.2.1.leave ht8 hIT
              refine op_move (ev_base hN93 rfl s93_8) ?_
              refine op_index_arr1 (j := (tix 8 (opN (L.getD i dOp)))) arr100 (ev_base hN93 rfl s93_4) (ev_hit hN93 rfl) (by omega) (by omega) ?_
              have hIN_old := hIN
              refine op_store_row (v := (Value.bool false)) size4 (ev_hit hN93 rfl) rfl rfl rfl hIN (by rw [List.length_map]; omega) ?_
              intro w127 hIN E128
              have z_w127 := E128.size
              have hr := hr.keep E128 (fun k hk => .inr (by simp at hk; omega))
              have hls : ∀ x9 ∈ (L.map opLab), RdC w127 0 w.heap.size 1 x9.1 x9.2.length (x9.2.map u16v) := fun x9 hx9 => (hls x9 hx9).keep E128 (fun k hk => .inr (by simp at hk; omega))
              have hrs : ∀ x9 ∈ (L.map opRds), RdC w127 0 w.heap.size 1 x9.1 x9.2.length (x9.2.map sv) := fun x9 hx9 => (hrs x9 hx9).keep E128 (fun k hk => .inr (by simp at hk; omega))
              have hLi := hLi.keep E128 (fun k hk => .inr (by simp at hk; omega))
              have hRi := hRi.keep E128 (fun k hk => .inr (by simp at hk; omega))
              have hB62 := hB62.keep E128 (fun hh => hB62.ne hIN_old (by decide) (Option.some.inj hh))
              have hST := hST.keep E128 (fun hh => hST.ne hIN_old (by decide) (Option.some.inj hh))
              have hl101 := hl101.keepG (Gr.of E128) (Dj.one dj108)
              have hb := below_step1 hb E128 hb.size (by omega)
              have hIN : Bx w127 b39 100 ((((IN.set (tix 8 (opN (L.getD i dOp))) true).set (tix 8 (opN (L.getD i dOp))) false).map Value.bool)) := row_set hIN
              refine reg_nil ?_
              refine hK126 _ _ ?_
              refine seq_any fun K129 hK129 => ?_
              refine one_reg ?_
              refine op_move (ev_base hN93 rfl s93_3) ?_
              refine op_move (ev_base hN93 rfl s93_8) ?_
              refine op_fn (vs := [(ptr k34 0), (Value.int .i64 (((tix 8 (opN (L.getD i dOp))) : Nat) : Int))]) ok57 ⟨(ev_hit hN93 rfl), ⟨(ev_hit hN93 rfl), trivial⟩⟩ (LeaveR (n := (((tix 8 (opN (L.getD i dOp))) : Nat) : Int)) (by omega) hl101) ?_
              rintro _ w131 ⟨E132, rfl, F130, hl130, hN130⟩
              have bd133 := hB62.lt
              have bd134 := hST.lt
              have bd135 := hIN.lt
              have hl101_old := hl101
              have z_w131 := E132.size
              have hr := hr.keepG E132 (fun k hk => .inr (by have := hl101_old.lt k hk; omega))
              have hls : ∀ x9 ∈ (L.map opLab), RdC w131 0 w.heap.size 1 x9.1 x9.2.length (x9.2.map u16v) := fun x9 hx9 => (hls x9 hx9).keepG E132 (fun k hk => .inr (by have := hl101_old.lt k hk; omega))
              have hrs : ∀ x9 ∈ (L.map opRds), RdC w131 0 w.heap.size 1 x9.1 x9.2.length (x9.2.map sv) := fun x9 hx9 => (hrs x9 hx9).keepG E132 (fun k hk => .inr (by have := hl101_old.lt k hk; omega))
              have hLi := hLi.keepG E132 (fun k hk => .inr (by have := hl101_old.lt k hk; omega))
              have hRi := hRi.keepG E132 (fun k hk => .inr (by have := hl101_old.lt k hk; omega))
              have hB62 := hB62.keepG E132 dj107
              have hST := hST.keepG E132 dj109
              have hIN := hIN.keepG E132 dj108
              have hb := below_stepG hb E132 hb.size (fun k hk => (hl101_old.lt k hk).1)
              have dj136 : ¬ F130 b60 := ne_stepF hN130 bd133 dj107
              have dj137 : ¬ F130 b45 := ne_stepF hN130 bd134 dj109
              have dj138 : ¬ F130 b39 := ne_stepF hN130 bd135 dj108
              refine op_neq (ev_hit hN93 rfl) rfl (fun c116 => ?_) (fun c116 => ?_)
              · -- 116T
               exact absurd hLv.1 c116
              · -- 116F
               refine reg_nil ?_
               refine hK129 _ _ ?_
               refine wp_cond_false (ev_hit hN93 rfl) ?_
               refine wp_skip ?_
               refine hK54 _ _ ?_
               refine one_reg ?_
               refine op_move (ev_base hN93 rfl s93_6) ?_
               refine op_add (ev_hit hN93 rfl) rfl (add64 (by omega)) ?_
               refine op_assign (ev_hit hN93 rfl) ?_
               refine reg_nil ?_
               -- round 18F 23T 31T 41T 54F 56F 88F 90T 93F 97T 100F 104F 109T 116F
               exact loop_next _ hN93 hd93 ⟨(i + 1), mdel (askM (enterM M (((tix 8 (opN (L.getD i dOp))) : Nat) : Int) ([] : List UInt16) ((((ST.set (tix 8 (opN (L.getD i dOp))) i).getD (tix 8 (opN (L.getD i dOp))) 0) : Nat) : Int)) (((tix 8 (opN (L.getD i dOp))) : Nat) : Int) (opR (L.getD i dOp)) (opW (L.getD i dOp))) (((tix 8 (opN (L.getD i dOp))) : Nat) : Int), ((IN.set (tix 8 (opN (L.getD i dOp))) true).set (tix 8 (opN (L.getD i dOp))) false), (ST.set (tix 8 (opN (L.getD i dOp))) i), F130, rfl, (sl_base hN93 rfl s93_0), (sl_base hN93 rfl s93_3), (sl_base hN93 rfl s93_4), (sl_base hN93 rfl s93_5), (sl_hit hN93 rfl).trans (congrArg (Value.int .i64) (by omega)), (by omega), (hLv.2.mono (by omega)), dj138, dj137, hb, (by omega), hr, hls, hrs, hl130, hIN, hST⟩ (by omega)
             · -- 109F
              refine op_pick_f (ev_hit hN93 rfl) (ev_hit hN93 rfl) ?_
              refine reg_nil ?_
              refine hK112 _ _ ?_
              refine wp_cond_false (ev_hit hN93 rfl) ?_
              refine wp_skip ?_
              refine hK54 _ _ ?_
              refine one_reg ?_
              refine op_move (ev_base hN93 rfl s93_6) ?_
              refine op_add (ev_hit hN93 rfl) rfl (add64 (by omega)) ?_
              refine op_assign (ev_hit hN93 rfl) ?_
              refine reg_nil ?_
              -- round 18F 23T 31T 41T 54F 56F 88F 90T 93F 97T 100F 104F 109F
              exact loop_next _ hN93 hd93 ⟨(i + 1), askM (enterM M (((tix 8 (opN (L.getD i dOp))) : Nat) : Int) ([] : List UInt16) ((((ST.set (tix 8 (opN (L.getD i dOp))) i).getD (tix 8 (opN (L.getD i dOp))) 0) : Nat) : Int)) (((tix 8 (opN (L.getD i dOp))) : Nat) : Int) (opR (L.getD i dOp)) (opW (L.getD i dOp)), (IN.set (tix 8 (opN (L.getD i dOp))) true), (ST.set (tix 8 (opN (L.getD i dOp))) i), F101, rfl, (sl_base hN93 rfl s93_0), (sl_base hN93 rfl s93_3), (sl_base hN93 rfl s93_4), (sl_base hN93 rfl s93_5), (sl_hit hN93 rfl).trans (congrArg (Value.int .i64) (by omega)), (by omega), (hAk.2.1.mono (by omega)), dj108, dj109, hb, (by omega), hr, hls, hrs, hl101, hIN, hST⟩ (by omega)
          · -- 97F
           try rw [c97]
           refine op_move ((ev_base hN93 rfl s93_10).trans (congrArg Value.bool c97)) ?_
           refine g_true (j := 9) (dj := 96) (b := false) rfl rfl rfl (ev_hit hN93 rfl) ?_
           refine op_move (ev_hit hN93 rfl) ?_
           refine g_false (j := 11) (dj := 98) (b := true) rfl rfl rfl (ev_hit hN93 rfl) rfl rfl ?_
           refine g_false (j := 11) (dj := 98) (b := true) rfl rfl rfl (ev_hit hN93 rfl) rfl rfl ?_
           refine g_true (j := 9) (dj := 96) (b := false) rfl rfl rfl (ev_hit hN93 rfl) ?_
           refine op_pick_f (ev_hit hN93 rfl) rfl ?_
           refine op_pick_f (ev_hit hN93 rfl) (ev_hit hN93 rfl) ?_
           refine reg_nil ?_
           refine hK111 _ _ ?_
           refine wp_cond_false (ev_hit hN93 rfl) ?_
           refine wp_skip ?_
           refine hK110 _ _ ?_
           refine seq_any fun K139 hK139 => ?_
           refine one_reg ?_
           refine op_move (ev_hit hN93 rfl) ?_
           refine op_eql (ev_hit hN93 rfl) rfl (fun c104 => ?_) (fun c104 => ?_)
           · -- 104T
            refine op_move (ev_hit hN93 rfl) ?_
            refine g_false (j := 2) (dj := 105) (b := false) rfl rfl rfl (ev_hit hN93 rfl) rfl rfl ?_
            refine g_false (j := 2) (dj := 105) (b := false) rfl rfl rfl (ev_hit hN93 rfl) rfl rfl ?_
            refine g_false (j := 2) (dj := 105) (b := false) rfl rfl rfl (ev_hit hN93 rfl) rfl rfl ?_
            refine g_false (j := 2) (dj := 105) (b := false) rfl rfl rfl (ev_hit hN93 rfl) rfl rfl ?_
            refine op_pick_t (ev_hit hN93 rfl) rfl ?_
            refine reg_nil ?_
            refine hK139 _ _ ?_
            refine wp_cond_true (ev_hit hN93 rfl) ?_
            refine seq_any fun K140 hK140 => ?_
            refine one_reg ?_
            have hLv := hAk.2.1.leave ht8 hIT
            refine op_move (ev_base hN93 rfl s93_8) ?_
            refine op_index_arr1 (j := (tix 8 (opN (L.getD i dOp)))) arr100 (ev_base hN93 rfl s93_4) (ev_hit hN93 rfl) (by omega) (by omega) ?_
            have hIN_old := hIN
            refine op_store_row (v := (Value.bool false)) size4 (ev_hit hN93 rfl) rfl rfl rfl hIN (by rw [List.length_map]; omega) ?_
            intro w141 hIN E142
            have z_w141 := E142.size
            have hr := hr.keep E142 (fun k hk => .inr (by simp at hk; omega))
            have hls : ∀ x9 ∈ (L.map opLab), RdC w141 0 w.heap.size 1 x9.1 x9.2.length (x9.2.map u16v) := fun x9 hx9 => (hls x9 hx9).keep E142 (fun k hk => .inr (by simp at hk; omega))
            have hrs : ∀ x9 ∈ (L.map opRds), RdC w141 0 w.heap.size 1 x9.1 x9.2.length (x9.2.map sv) := fun x9 hx9 => (hrs x9 hx9).keep E142 (fun k hk => .inr (by simp at hk; omega))
            have hLi := hLi.keep E142 (fun k hk => .inr (by simp at hk; omega))
            have hRi := hRi.keep E142 (fun k hk => .inr (by simp at hk; omega))
            have hB62 := hB62.keep E142 (fun hh => hB62.ne hIN_old (by decide) (Option.some.inj hh))
            have hST := hST.keep E142 (fun hh => hST.ne hIN_old (by decide) (Option.some.inj hh))
            have hl101 := hl101.keepG (Gr.of E142) (Dj.one dj108)
            have hb := below_step1 hb E142 hb.size (by omega)
            have hIN : Bx w141 b39 100 ((((IN.set (tix 8 (opN (L.getD i dOp))) true).set (tix 8 (opN (L.getD i dOp))) false).map Value.bool)) := row_set hIN
            refine reg_nil ?_
            refine hK140 _ _ ?_
            refine seq_any fun K143 hK143 => ?_
            refine one_reg ?_
            refine op_move (ev_base hN93 rfl s93_3) ?_
            refine op_move (ev_base hN93 rfl s93_8) ?_
            refine op_fn (vs := [(ptr k34 0), (Value.int .i64 (((tix 8 (opN (L.getD i dOp))) : Nat) : Int))]) ok57 ⟨(ev_hit hN93 rfl), ⟨(ev_hit hN93 rfl), trivial⟩⟩ (LeaveR (n := (((tix 8 (opN (L.getD i dOp))) : Nat) : Int)) (by omega) hl101) ?_
            rintro _ w145 ⟨E146, rfl, F144, hl144, hN144⟩
            have bd147 := hB62.lt
            have bd148 := hST.lt
            have bd149 := hIN.lt
            have hl101_old := hl101
            have z_w145 := E146.size
            have hr := hr.keepG E146 (fun k hk => .inr (by have := hl101_old.lt k hk; omega))
            have hls : ∀ x9 ∈ (L.map opLab), RdC w145 0 w.heap.size 1 x9.1 x9.2.length (x9.2.map u16v) := fun x9 hx9 => (hls x9 hx9).keepG E146 (fun k hk => .inr (by have := hl101_old.lt k hk; omega))
            have hrs : ∀ x9 ∈ (L.map opRds), RdC w145 0 w.heap.size 1 x9.1 x9.2.length (x9.2.map sv) := fun x9 hx9 => (hrs x9 hx9).keepG E146 (fun k hk => .inr (by have := hl101_old.lt k hk; omega))
            have hLi := hLi.keepG E146 (fun k hk => .inr (by have := hl101_old.lt k hk; omega))
            have hRi := hRi.keepG E146 (fun k hk => .inr (by have := hl101_old.lt k hk; omega))
            have hB62 := hB62.keepG E146 dj107
            have hST := hST.keepG E146 dj109
            have hIN := hIN.keepG E146 dj108
            have hb := below_stepG hb E146 hb.size (fun k hk => (hl101_old.lt k hk).1)
            have dj150 : ¬ F144 b60 := ne_stepF hN144 bd147 dj107
            have dj151 : ¬ F144 b45 := ne_stepF hN144 bd148 dj109
            have dj152 : ¬ F144 b39 := ne_stepF hN144 bd149 dj108
            refine op_neq (ev_hit hN93 rfl) rfl (fun c116 => ?_) (fun c116 => ?_)
            · -- 116T
             exact absurd hLv.1 c116
            · -- 116F
             refine reg_nil ?_
             refine hK143 _ _ ?_
             refine wp_cond_false (ev_hit hN93 rfl) ?_
             refine wp_skip ?_
             refine hK54 _ _ ?_
             refine one_reg ?_
             refine op_move (ev_base hN93 rfl s93_6) ?_
             refine op_add (ev_hit hN93 rfl) rfl (add64 (by omega)) ?_
             refine op_assign (ev_hit hN93 rfl) ?_
             refine reg_nil ?_
             -- round 18F 23T 31T 41T 54F 56F 88F 90T 93F 97F 104T 116F
             exact loop_next _ hN93 hd93 ⟨(i + 1), mdel (askM (enterM M (((tix 8 (opN (L.getD i dOp))) : Nat) : Int) ([] : List UInt16) ((((ST.set (tix 8 (opN (L.getD i dOp))) i).getD (tix 8 (opN (L.getD i dOp))) 0) : Nat) : Int)) (((tix 8 (opN (L.getD i dOp))) : Nat) : Int) (opR (L.getD i dOp)) (opW (L.getD i dOp))) (((tix 8 (opN (L.getD i dOp))) : Nat) : Int), ((IN.set (tix 8 (opN (L.getD i dOp))) true).set (tix 8 (opN (L.getD i dOp))) false), (ST.set (tix 8 (opN (L.getD i dOp))) i), F144, rfl, (sl_base hN93 rfl s93_0), (sl_base hN93 rfl s93_3), (sl_base hN93 rfl s93_4), (sl_base hN93 rfl s93_5), (sl_hit hN93 rfl).trans (congrArg (Value.int .i64) (by omega)), (by omega), (hLv.2.mono (by omega)), dj152, dj151, hb, (by omega), hr, hls, hrs, hl144, hIN, hST⟩ (by omega)
           · -- 104F
            refine op_move (ev_hit hN93 rfl) ?_
            refine g_true (j := 2) (dj := 105) (b := false) rfl rfl rfl (ev_hit hN93 rfl) ?_
            refine op_field fld103_0 (ev_base hN93 rfl s93_7) ?_
            refine g_true (j := 2) (dj := 105) (b := false) rfl rfl rfl (ev_hit hN93 rfl) ?_
            refine op_load1 (v := (Value.int .i64 (opK (L.getD i dOp)))) one3 (ev_hit hN93 rfl) (hB62.cell rfl) ?_
            refine g_true (j := 2) (dj := 105) (b := false) rfl rfl rfl (ev_hit hN93 rfl) ?_
            refine op_rem (r := (Int.tmod (opK (L.getD i dOp)) 5)) (ev_hit hN93 rfl) rfl (by decide) rfl ?_
            refine g_true (j := 2) (dj := 105) (b := false) rfl rfl rfl (ev_hit hN93 rfl) ?_
            refine op_eql (ev_hit hN93 rfl) rfl (fun c109 => ?_) (fun c109 => ?_)
            · -- 109T
             refine op_pick_f (ev_hit hN93 rfl) (ev_hit hN93 rfl) ?_
             refine reg_nil ?_
             refine hK139 _ _ ?_
             refine wp_cond_true (ev_hit hN93 rfl) ?_
             refine seq_any fun K153 hK153 => ?_
             refine one_reg ?_
             have hLv := hAk.2.1.leave ht8 hIT
             refine op_move (ev_base hN93 rfl s93_8) ?_
             refine op_index_arr1 (j := (tix 8 (opN (L.getD i dOp)))) arr100 (ev_base hN93 rfl s93_4) (ev_hit hN93 rfl) (by omega) (by omega) ?_
             have hIN_old := hIN
             refine op_store_row (v := (Value.bool false)) size4 (ev_hit hN93 rfl) rfl rfl rfl hIN (by rw [List.length_map]; omega) ?_
             intro w154 hIN E155
             have z_w154 := E155.size
             have hr := hr.keep E155 (fun k hk => .inr (by simp at hk; omega))
             have hls : ∀ x9 ∈ (L.map opLab), RdC w154 0 w.heap.size 1 x9.1 x9.2.length (x9.2.map u16v) := fun x9 hx9 => (hls x9 hx9).keep E155 (fun k hk => .inr (by simp at hk; omega))
             have hrs : ∀ x9 ∈ (L.map opRds), RdC w154 0 w.heap.size 1 x9.1 x9.2.length (x9.2.map sv) := fun x9 hx9 => (hrs x9 hx9).keep E155 (fun k hk => .inr (by simp at hk; omega))
             have hLi := hLi.keep E155 (fun k hk => .inr (by simp at hk; omega))
             have hRi := hRi.keep E155 (fun k hk => .inr (by simp at hk; omega))
             have hB62 := hB62.keep E155 (fun hh => hB62.ne hIN_old (by decide) (Option.some.inj hh))
             have hST := hST.keep E155 (fun hh => hST.ne hIN_old (by decide) (Option.some.inj hh))
             have hl101 := hl101.keepG (Gr.of E155) (Dj.one dj108)
             have hb := below_step1 hb E155 hb.size (by omega)
             have hIN : Bx w154 b39 100 ((((IN.set (tix 8 (opN (L.getD i dOp))) true).set (tix 8 (opN (L.getD i dOp))) false).map Value.bool)) := row_set hIN
             refine reg_nil ?_
             refine hK153 _ _ ?_
             refine seq_any fun K156 hK156 => ?_
             refine one_reg ?_
             refine op_move (ev_base hN93 rfl s93_3) ?_
             refine op_move (ev_base hN93 rfl s93_8) ?_
             refine op_fn (vs := [(ptr k34 0), (Value.int .i64 (((tix 8 (opN (L.getD i dOp))) : Nat) : Int))]) ok57 ⟨(ev_hit hN93 rfl), ⟨(ev_hit hN93 rfl), trivial⟩⟩ (LeaveR (n := (((tix 8 (opN (L.getD i dOp))) : Nat) : Int)) (by omega) hl101) ?_
             rintro _ w158 ⟨E159, rfl, F157, hl157, hN157⟩
             have bd160 := hB62.lt
             have bd161 := hST.lt
             have bd162 := hIN.lt
             have hl101_old := hl101
             have z_w158 := E159.size
             have hr := hr.keepG E159 (fun k hk => .inr (by have := hl101_old.lt k hk; omega))
             have hls : ∀ x9 ∈ (L.map opLab), RdC w158 0 w.heap.size 1 x9.1 x9.2.length (x9.2.map u16v) := fun x9 hx9 => (hls x9 hx9).keepG E159 (fun k hk => .inr (by have := hl101_old.lt k hk; omega))
             have hrs : ∀ x9 ∈ (L.map opRds), RdC w158 0 w.heap.size 1 x9.1 x9.2.length (x9.2.map sv) := fun x9 hx9 => (hrs x9 hx9).keepG E159 (fun k hk => .inr (by have := hl101_old.lt k hk; omega))
             have hLi := hLi.keepG E159 (fun k hk => .inr (by have := hl101_old.lt k hk; omega))
             have hRi := hRi.keepG E159 (fun k hk => .inr (by have := hl101_old.lt k hk; omega))
             have hB62 := hB62.keepG E159 dj107
             have hST := hST.keepG E159 dj109
             have hIN := hIN.keepG E159 dj108
             have hb := below_stepG hb E159 hb.size (fun k hk => (hl101_old.lt k hk).1)
             have dj163 : ¬ F157 b60 := ne_stepF hN157 bd160 dj107
             have dj164 : ¬ F157 b45 := ne_stepF hN157 bd161 dj109
             have dj165 : ¬ F157 b39 := ne_stepF hN157 bd162 dj108
             refine op_neq (ev_hit hN93 rfl) rfl (fun c116 => ?_) (fun c116 => ?_)
             · -- 116T
              exact absurd hLv.1 c116
             · -- 116F
              refine reg_nil ?_
              refine hK156 _ _ ?_
              refine wp_cond_false (ev_hit hN93 rfl) ?_
              refine wp_skip ?_
              refine hK54 _ _ ?_
              refine one_reg ?_
              refine op_move (ev_base hN93 rfl s93_6) ?_
              refine op_add (ev_hit hN93 rfl) rfl (add64 (by omega)) ?_
              refine op_assign (ev_hit hN93 rfl) ?_
              refine reg_nil ?_
              -- round 18F 23T 31T 41T 54F 56F 88F 90T 93F 97F 104F 109T 116F
              exact loop_next _ hN93 hd93 ⟨(i + 1), mdel (askM (enterM M (((tix 8 (opN (L.getD i dOp))) : Nat) : Int) ([] : List UInt16) ((((ST.set (tix 8 (opN (L.getD i dOp))) i).getD (tix 8 (opN (L.getD i dOp))) 0) : Nat) : Int)) (((tix 8 (opN (L.getD i dOp))) : Nat) : Int) (opR (L.getD i dOp)) (opW (L.getD i dOp))) (((tix 8 (opN (L.getD i dOp))) : Nat) : Int), ((IN.set (tix 8 (opN (L.getD i dOp))) true).set (tix 8 (opN (L.getD i dOp))) false), (ST.set (tix 8 (opN (L.getD i dOp))) i), F157, rfl, (sl_base hN93 rfl s93_0), (sl_base hN93 rfl s93_3), (sl_base hN93 rfl s93_4), (sl_base hN93 rfl s93_5), (sl_hit hN93 rfl).trans (congrArg (Value.int .i64) (by omega)), (by omega), (hLv.2.mono (by omega)), dj165, dj164, hb, (by omega), hr, hls, hrs, hl157, hIN, hST⟩ (by omega)
            · -- 109F
             refine op_pick_f (ev_hit hN93 rfl) (ev_hit hN93 rfl) ?_
             refine reg_nil ?_
             refine hK139 _ _ ?_
             refine wp_cond_false (ev_hit hN93 rfl) ?_
             refine wp_skip ?_
             refine hK54 _ _ ?_
             refine one_reg ?_
             refine op_move (ev_base hN93 rfl s93_6) ?_
             refine op_add (ev_hit hN93 rfl) rfl (add64 (by omega)) ?_
             refine op_assign (ev_hit hN93 rfl) ?_
             refine reg_nil ?_
             -- round 18F 23T 31T 41T 54F 56F 88F 90T 93F 97F 104F 109F
             exact loop_next _ hN93 hd93 ⟨(i + 1), askM (enterM M (((tix 8 (opN (L.getD i dOp))) : Nat) : Int) ([] : List UInt16) ((((ST.set (tix 8 (opN (L.getD i dOp))) i).getD (tix 8 (opN (L.getD i dOp))) 0) : Nat) : Int)) (((tix 8 (opN (L.getD i dOp))) : Nat) : Int) (opR (L.getD i dOp)) (opW (L.getD i dOp)), (IN.set (tix 8 (opN (L.getD i dOp))) true), (ST.set (tix 8 (opN (L.getD i dOp))) i), F101, rfl, (sl_base hN93 rfl s93_0), (sl_base hN93 rfl s93_3), (sl_base hN93 rfl s93_4), (sl_base hN93 rfl s93_5), (sl_hit hN93 rfl).trans (congrArg (Value.int .i64) (by omega)), (by omega), (hAk.2.1.mono (by omega)), dj108, dj109, hb, (by omega), hr, hls, hrs, hl101, hIN, hST⟩ (by omega)
        · -- 90F
         try rw [c90]
         refine op_move ((ev_base hN93 rfl s93_9).trans (congrArg Value.bool c90)) ?_
         refine g_true (j := 2) (dj := 89) (b := false) rfl rfl rfl (ev_hit hN93 rfl) ?_
         refine op_move (ev_hit hN93 rfl) ?_
         refine g_false (j := 4) (dj := 91) (b := true) rfl rfl rfl (ev_hit hN93 rfl) rfl rfl ?_
         refine g_false (j := 4) (dj := 91) (b := true) rfl rfl rfl (ev_hit hN93 rfl) rfl rfl ?_
         refine g_true (j := 2) (dj := 89) (b := false) rfl rfl rfl (ev_hit hN93 rfl) ?_
         refine op_pick_f (ev_hit hN93 rfl) rfl ?_
         refine op_pick_f (ev_hit hN93 rfl) (ev_hit hN93 rfl) ?_
         refine op_move (ev_hit hN93 rfl) ?_
         refine g_true (j := 9) (dj := 96) (b := false) rfl rfl rfl (ev_hit hN93 rfl) ?_
         rcases Bool.eq_false_or_eq_true ((aloB (IN.set (tix 8 (opN (L.getD i dOp))) true) (tix 8 (opN (L.getD i dOp))) j)) with c97 | c97
         · -- 97T
          try rw [c97]
          refine op_move ((ev_base hN93 rfl s93_10).trans (congrArg Value.bool c97)) ?_
          refine g_true (j := 9) (dj := 96) (b := false) rfl rfl rfl (ev_hit hN93 rfl) ?_
          refine op_move (ev_hit hN93 rfl) ?_
          refine g_true (j := 11) (dj := 98) (b := true) rfl rfl rfl (ev_hit hN93 rfl) ?_
          refine op_move (ev_hit hN93 rfl) ?_
          refine g_true (j := 11) (dj := 98) (b := true) rfl rfl rfl (ev_hit hN93 rfl) ?_
          refine op_neq (ev_hit hN93 rfl) rfl (fun c100 => ?_) (fun c100 => ?_)
          · -- 100T
           exact absurd (hAk.2.2.2 (by rw [hj8] at c97; exact c97)) c100
          · -- 100F
           refine g_true (j := 9) (dj := 96) (b := false) rfl rfl rfl (ev_hit hN93 rfl) ?_
           refine op_pick_t (ev_hit hN93 rfl) (ev_hit hN93 rfl) ?_
           refine op_pick_f (ev_hit hN93 rfl) (ev_hit hN93 rfl) ?_
           refine reg_nil ?_
           refine hK111 _ _ ?_
           refine wp_cond_false (ev_hit hN93 rfl) ?_
           refine wp_skip ?_
           refine hK110 _ _ ?_
           refine seq_any fun K166 hK166 => ?_
           refine one_reg ?_
           refine op_move (ev_hit hN93 rfl) ?_
           refine op_eql (ev_hit hN93 rfl) rfl (fun c104 => ?_) (fun c104 => ?_)
           · -- 104T
            refine op_move (ev_hit hN93 rfl) ?_
            refine g_false (j := 2) (dj := 105) (b := false) rfl rfl rfl (ev_hit hN93 rfl) rfl rfl ?_
            refine g_false (j := 2) (dj := 105) (b := false) rfl rfl rfl (ev_hit hN93 rfl) rfl rfl ?_
            refine g_false (j := 2) (dj := 105) (b := false) rfl rfl rfl (ev_hit hN93 rfl) rfl rfl ?_
            refine g_false (j := 2) (dj := 105) (b := false) rfl rfl rfl (ev_hit hN93 rfl) rfl rfl ?_
            refine op_pick_t (ev_hit hN93 rfl) rfl ?_
            refine reg_nil ?_
            refine hK166 _ _ ?_
            refine wp_cond_true (ev_hit hN93 rfl) ?_
            refine seq_any fun K167 hK167 => ?_
            refine one_reg ?_
            have hLv := hAk.2.1.leave ht8 hIT
            refine op_move (ev_base hN93 rfl s93_8) ?_
            refine op_index_arr1 (j := (tix 8 (opN (L.getD i dOp)))) arr100 (ev_base hN93 rfl s93_4) (ev_hit hN93 rfl) (by omega) (by omega) ?_
            have hIN_old := hIN
            refine op_store_row (v := (Value.bool false)) size4 (ev_hit hN93 rfl) rfl rfl rfl hIN (by rw [List.length_map]; omega) ?_
            intro w168 hIN E169
            have z_w168 := E169.size
            have hr := hr.keep E169 (fun k hk => .inr (by simp at hk; omega))
            have hls : ∀ x9 ∈ (L.map opLab), RdC w168 0 w.heap.size 1 x9.1 x9.2.length (x9.2.map u16v) := fun x9 hx9 => (hls x9 hx9).keep E169 (fun k hk => .inr (by simp at hk; omega))
            have hrs : ∀ x9 ∈ (L.map opRds), RdC w168 0 w.heap.size 1 x9.1 x9.2.length (x9.2.map sv) := fun x9 hx9 => (hrs x9 hx9).keep E169 (fun k hk => .inr (by simp at hk; omega))
            have hLi := hLi.keep E169 (fun k hk => .inr (by simp at hk; omega))
            have hRi := hRi.keep E169 (fun k hk => .inr (by simp at hk; omega))
            have hB62 := hB62.keep E169 (fun hh => hB62.ne hIN_old (by decide) (Option.some.inj hh))
            have hST := hST.keep E169 (fun hh => hST.ne hIN_old (by decide) (Option.some.inj hh))
            have hl101 := hl101.keepG (Gr.of E169) (Dj.one dj108)
            have hb := below_step1 hb E169 hb.size (by omega)
            have hIN : Bx w168 b39 100 ((((IN.set (tix 8 (opN (L.getD i dOp))) true).set (tix 8 (opN (L.getD i dOp))) false).map Value.bool)) := row_set hIN
            refine reg_nil ?_
            refine hK167 _ _ ?_
            refine seq_any fun K170 hK170 => ?_
            refine one_reg ?_
            refine op_move (ev_base hN93 rfl s93_3) ?_
            refine op_move (ev_base hN93 rfl s93_8) ?_
            refine op_fn (vs := [(ptr k34 0), (Value.int .i64 (((tix 8 (opN (L.getD i dOp))) : Nat) : Int))]) ok57 ⟨(ev_hit hN93 rfl), ⟨(ev_hit hN93 rfl), trivial⟩⟩ (LeaveR (n := (((tix 8 (opN (L.getD i dOp))) : Nat) : Int)) (by omega) hl101) ?_
            rintro _ w172 ⟨E173, rfl, F171, hl171, hN171⟩
            have bd174 := hB62.lt
            have bd175 := hST.lt
            have bd176 := hIN.lt
            have hl101_old := hl101
            have z_w172 := E173.size
            have hr := hr.keepG E173 (fun k hk => .inr (by have := hl101_old.lt k hk; omega))
            have hls : ∀ x9 ∈ (L.map opLab), RdC w172 0 w.heap.size 1 x9.1 x9.2.length (x9.2.map u16v) := fun x9 hx9 => (hls x9 hx9).keepG E173 (fun k hk => .inr (by have := hl101_old.lt k hk; omega))
            have hrs : ∀ x9 ∈ (L.map opRds), RdC w172 0 w.heap.size 1 x9.1 x9.2.length (x9.2.map sv) := fun x9 hx9 => (hrs x9 hx9).keepG E173 (fun k hk => .inr (by have := hl101_old.lt k hk; omega))
            have hLi := hLi.keepG E173 (fun k hk => .inr (by have := hl101_old.lt k hk; omega))
            have hRi := hRi.keepG E173 (fun k hk => .inr (by have := hl101_old.lt k hk; omega))
            have hB62 := hB62.keepG E173 dj107
            have hST := hST.keepG E173 dj109
            have hIN := hIN.keepG E173 dj108
            have hb := below_stepG hb E173 hb.size (fun k hk => (hl101_old.lt k hk).1)
            have dj177 : ¬ F171 b60 := ne_stepF hN171 bd174 dj107
            have dj178 : ¬ F171 b45 := ne_stepF hN171 bd175 dj109
            have dj179 : ¬ F171 b39 := ne_stepF hN171 bd176 dj108
            refine op_neq (ev_hit hN93 rfl) rfl (fun c116 => ?_) (fun c116 => ?_)
            · -- 116T
             exact absurd hLv.1 c116
            · -- 116F
             refine reg_nil ?_
             refine hK170 _ _ ?_
             refine wp_cond_false (ev_hit hN93 rfl) ?_
             refine wp_skip ?_
             refine hK54 _ _ ?_
             refine one_reg ?_
             refine op_move (ev_base hN93 rfl s93_6) ?_
             refine op_add (ev_hit hN93 rfl) rfl (add64 (by omega)) ?_
             refine op_assign (ev_hit hN93 rfl) ?_
             refine reg_nil ?_
             -- round 18F 23T 31T 41T 54F 56F 88F 90F 97T 100F 104T 116F
             exact loop_next _ hN93 hd93 ⟨(i + 1), mdel (askM (enterM M (((tix 8 (opN (L.getD i dOp))) : Nat) : Int) ([] : List UInt16) ((((ST.set (tix 8 (opN (L.getD i dOp))) i).getD (tix 8 (opN (L.getD i dOp))) 0) : Nat) : Int)) (((tix 8 (opN (L.getD i dOp))) : Nat) : Int) (opR (L.getD i dOp)) (opW (L.getD i dOp))) (((tix 8 (opN (L.getD i dOp))) : Nat) : Int), ((IN.set (tix 8 (opN (L.getD i dOp))) true).set (tix 8 (opN (L.getD i dOp))) false), (ST.set (tix 8 (opN (L.getD i dOp))) i), F171, rfl, (sl_base hN93 rfl s93_0), (sl_base hN93 rfl s93_3), (sl_base hN93 rfl s93_4), (sl_base hN93 rfl s93_5), (sl_hit hN93 rfl).trans (congrArg (Value.int .i64) (by omega)), (by omega), (hLv.2.mono (by omega)), dj179, dj178, hb, (by omega), hr, hls, hrs, hl171, hIN, hST⟩ (by omega)
           · -- 104F
            refine op_move (ev_hit hN93 rfl) ?_
            refine g_true (j := 2) (dj := 105) (b := false) rfl rfl rfl (ev_hit hN93 rfl) ?_
            refine op_field fld103_0 (ev_base hN93 rfl s93_7) ?_
            refine g_true (j := 2) (dj := 105) (b := false) rfl rfl rfl (ev_hit hN93 rfl) ?_
            refine op_load1 (v := (Value.int .i64 (opK (L.getD i dOp)))) one3 (ev_hit hN93 rfl) (hB62.cell rfl) ?_
            refine g_true (j := 2) (dj := 105) (b := false) rfl rfl rfl (ev_hit hN93 rfl) ?_
            refine op_rem (r := (Int.tmod (opK (L.getD i dOp)) 5)) (ev_hit hN93 rfl) rfl (by decide) rfl ?_
            refine g_true (j := 2) (dj := 105) (b := false) rfl rfl rfl (ev_hit hN93 rfl) ?_
            refine op_eql (ev_hit hN93 rfl) rfl (fun c109 => ?_) (fun c109 => ?_)
            · -- 109T
             refine op_pick_f (ev_hit hN93 rfl) (ev_hit hN93 rfl) ?_
             refine reg_nil ?_
             refine hK166 _ _ ?_
             refine wp_cond_true (ev_hit hN93 rfl) ?_
             refine seq_any fun K180 hK180 => ?_
             refine one_reg ?_
             have hLv := hAk.2.1.leave ht8 hIT
             refine op_move (ev_base hN93 rfl s93_8) ?_
             refine op_index_arr1 (j := (tix 8 (opN (L.getD i dOp)))) arr100 (ev_base hN93 rfl s93_4) (ev_hit hN93 rfl) (by omega) (by omega) ?_
             have hIN_old := hIN
             refine op_store_row (v := (Value.bool false)) size4 (ev_hit hN93 rfl) rfl rfl rfl hIN (by rw [List.length_map]; omega) ?_
             intro w181 hIN E182
             have z_w181 := E182.size
             have hr := hr.keep E182 (fun k hk => .inr (by simp at hk; omega))
             have hls : ∀ x9 ∈ (L.map opLab), RdC w181 0 w.heap.size 1 x9.1 x9.2.length (x9.2.map u16v) := fun x9 hx9 => (hls x9 hx9).keep E182 (fun k hk => .inr (by simp at hk; omega))
             have hrs : ∀ x9 ∈ (L.map opRds), RdC w181 0 w.heap.size 1 x9.1 x9.2.length (x9.2.map sv) := fun x9 hx9 => (hrs x9 hx9).keep E182 (fun k hk => .inr (by simp at hk; omega))
             have hLi := hLi.keep E182 (fun k hk => .inr (by simp at hk; omega))
             have hRi := hRi.keep E182 (fun k hk => .inr (by simp at hk; omega))
             have hB62 := hB62.keep E182 (fun hh => hB62.ne hIN_old (by decide) (Option.some.inj hh))
             have hST := hST.keep E182 (fun hh => hST.ne hIN_old (by decide) (Option.some.inj hh))
             have hl101 := hl101.keepG (Gr.of E182) (Dj.one dj108)
             have hb := below_step1 hb E182 hb.size (by omega)
             have hIN : Bx w181 b39 100 ((((IN.set (tix 8 (opN (L.getD i dOp))) true).set (tix 8 (opN (L.getD i dOp))) false).map Value.bool)) := row_set hIN
             refine reg_nil ?_
             refine hK180 _ _ ?_
             refine seq_any fun K183 hK183 => ?_
             refine one_reg ?_
             refine op_move (ev_base hN93 rfl s93_3) ?_
             refine op_move (ev_base hN93 rfl s93_8) ?_
             refine op_fn (vs := [(ptr k34 0), (Value.int .i64 (((tix 8 (opN (L.getD i dOp))) : Nat) : Int))]) ok57 ⟨(ev_hit hN93 rfl), ⟨(ev_hit hN93 rfl), trivial⟩⟩ (LeaveR (n := (((tix 8 (opN (L.getD i dOp))) : Nat) : Int)) (by omega) hl101) ?_
             rintro _ w185 ⟨E186, rfl, F184, hl184, hN184⟩
             have bd187 := hB62.lt
             have bd188 := hST.lt
             have bd189 := hIN.lt
             have hl101_old := hl101
             have z_w185 := E186.size
             have hr := hr.keepG E186 (fun k hk => .inr (by have := hl101_old.lt k hk; omega))
             have hls : ∀ x9 ∈ (L.map opLab), RdC w185 0 w.heap.size 1 x9.1 x9.2.length (x9.2.map u16v) := fun x9 hx9 => (hls x9 hx9).keepG E186 (fun k hk => .inr (by have := hl101_old.lt k hk; omega))
             have hrs : ∀ x9 ∈ (L.map opRds), RdC w185 0 w.heap.size 1 x9.1 x9.2.length (x9.2.map sv) := fun x9 hx9 => (hrs x9 hx9).keepG E186 (fun k hk => .inr (by have := hl101_old.lt k hk; omega))
             have hLi := hLi.keepG E186 (fun k hk => .inr (by have := hl101_old.lt k hk; omega))
             have hRi := hRi.keepG E186 (fun k hk => .inr (by have := hl101_old.lt k hk; omega))
             have hB62 := hB62.keepG E186 dj107
             have hST := hST.keepG E186 dj109
             have hIN := hIN.keepG E186 dj108
             have hb := below_stepG hb E186 hb.size (fun k hk => (hl101_old.lt k hk).1)
             have dj190 : ¬ F184 b60 := ne_stepF hN184 bd187 dj107
             have dj191 : ¬ F184 b45 := ne_stepF hN184 bd188 dj109
             have dj192 : ¬ F184 b39 := ne_stepF hN184 bd189 dj108
             refine op_neq (ev_hit hN93 rfl) rfl (fun c116 => ?_) (fun c116 => ?_)
             · -- 116T
              exact absurd hLv.1 c116
             · -- 116F
              refine reg_nil ?_
              refine hK183 _ _ ?_
              refine wp_cond_false (ev_hit hN93 rfl) ?_
              refine wp_skip ?_
              refine hK54 _ _ ?_
              refine one_reg ?_
              refine op_move (ev_base hN93 rfl s93_6) ?_
              refine op_add (ev_hit hN93 rfl) rfl (add64 (by omega)) ?_
              refine op_assign (ev_hit hN93 rfl) ?_
              refine reg_nil ?_
              -- round 18F 23T 31T 41T 54F 56F 88F 90F 97T 100F 104F 109T 116F
              exact loop_next _ hN93 hd93 ⟨(i + 1), mdel (askM (enterM M (((tix 8 (opN (L.getD i dOp))) : Nat) : Int) ([] : List UInt16) ((((ST.set (tix 8 (opN (L.getD i dOp))) i).getD (tix 8 (opN (L.getD i dOp))) 0) : Nat) : Int)) (((tix 8 (opN (L.getD i dOp))) : Nat) : Int) (opR (L.getD i dOp)) (opW (L.getD i dOp))) (((tix 8 (opN (L.getD i dOp))) : Nat) : Int), ((IN.set (tix 8 (opN (L.getD i dOp))) true).set (tix 8 (opN (L.getD i dOp))) false), (ST.set (tix 8 (opN (L.getD i dOp))) i), F184, rfl, (sl_base hN93 rfl s93_0), (sl_base hN93 rfl s93_3), (sl_base hN93 rfl s93_4), (sl_base hN93 rfl s93_5), (sl_hit hN93 rfl).trans (congrArg (Value.int .i64) (by omega)), (by omega), (hLv.2.mono (by omega)), dj192, dj191, hb, (by omega), hr, hls, hrs, hl184, hIN, hST⟩ (by omega)
            · -- 109F
             refine op_pick_f (ev_hit hN93 rfl) (ev_hit hN93 rfl) ?_
             refine reg_nil ?_
             refine hK166 _ _ ?_
             refine wp_cond_false (ev_hit hN93 rfl) ?_
             refine wp_skip ?_
             refine hK54 _ _ ?_
             refine one_reg ?_
             refine op_move (ev_base hN93 rfl s93_6) ?_
             refine op_add (ev_hit hN93 rfl) rfl (add64 (by omega)) ?_
             refine op_assign (ev_hit hN93 rfl) ?_
             refine reg_nil ?_
             -- round 18F 23T 31T 41T 54F 56F 88F 90F 97T 100F 104F 109F
             exact loop_next _ hN93 hd93 ⟨(i + 1), askM (enterM M (((tix 8 (opN (L.getD i dOp))) : Nat) : Int) ([] : List UInt16) ((((ST.set (tix 8 (opN (L.getD i dOp))) i).getD (tix 8 (opN (L.getD i dOp))) 0) : Nat) : Int)) (((tix 8 (opN (L.getD i dOp))) : Nat) : Int) (opR (L.getD i dOp)) (opW (L.getD i dOp)), (IN.set (tix 8 (opN (L.getD i dOp))) true), (ST.set (tix 8 (opN (L.getD i dOp))) i), F101, rfl, (sl_base hN93 rfl s93_0), (sl_base hN93 rfl s93_3), (sl_base hN93 rfl s93_4), (sl_base hN93 rfl s93_5), (sl_hit hN93 rfl).trans (congrArg (Value.int .i64) (by omega)), (by omega), (hAk.2.1.mono (by omega)), dj108, dj109, hb, (by omega), hr, hls, hrs, hl101, hIN, hST⟩ (by omega)
         · -- 97F
          try rw [c97]
          refine op_move ((ev_base hN93 rfl s93_10).trans (congrArg Value.bool c97)) ?_
          refine g_true (j := 9) (dj := 96) (b := false) rfl rfl rfl (ev_hit hN93 rfl) ?_
          refine op_move (ev_hit hN93 rfl) ?_
          refine g_false (j := 11) (dj := 98) (b := true) rfl rfl rfl (ev_hit hN93 rfl) rfl rfl ?_
          refine g_false (j := 11) (dj := 98) (b := true) rfl rfl rfl (ev_hit hN93 rfl) rfl rfl ?_
          refine g_true (j := 9) (dj := 96) (b := false) rfl rfl rfl (ev_hit hN93 rfl) ?_
          refine op_pick_f (ev_hit hN93 rfl) rfl ?_
          refine op_pick_f (ev_hit hN93 rfl) (ev_hit hN93 rfl) ?_
          refine reg_nil ?_
          refine hK111 _ _ ?_
          refine wp_cond_false (ev_hit hN93 rfl) ?_
          refine wp_skip ?_
          refine hK110 _ _ ?_
          refine seq_any fun K193 hK193 => ?_
          refine one_reg ?_
          refine op_move (ev_hit hN93 rfl) ?_
          refine op_eql (ev_hit hN93 rfl) rfl (fun c104 => ?_) (fun c104 => ?_)
          · -- 104T
           refine op_move (ev_hit hN93 rfl) ?_
           refine g_false (j := 2) (dj := 105) (b := false) rfl rfl rfl (ev_hit hN93 rfl) rfl rfl ?_
           refine g_false (j := 2) (dj := 105) (b := false) rfl rfl rfl (ev_hit hN93 rfl) rfl rfl ?_
           refine g_false (j := 2) (dj := 105) (b := false) rfl rfl rfl (ev_hit hN93 rfl) rfl rfl ?_
           refine g_false (j := 2) (dj := 105) (b := false) rfl rfl rfl (ev_hit hN93 rfl) rfl rfl ?_
           refine op_pick_t (ev_hit hN93 rfl) rfl ?_
           refine reg_nil ?_
           refine hK193 _ _ ?_
           refine wp_cond_true (ev_hit hN93 rfl) ?_
           refine seq_any fun K194 hK194 => ?_
           refine one_reg ?_
           have hLv := hAk.2.1.leave ht8 hIT
           refine op_move (ev_base hN93 rfl s93_8) ?_
           refine op_index_arr1 (j := (tix 8 (opN (L.getD i dOp)))) arr100 (ev_base hN93 rfl s93_4) (ev_hit hN93 rfl) (by omega) (by omega) ?_
           have hIN_old := hIN
           refine op_store_row (v := (Value.bool false)) size4 (ev_hit hN93 rfl) rfl rfl rfl hIN (by rw [List.length_map]; omega) ?_
           intro w195 hIN E196
           have z_w195 := E196.size
           have hr := hr.keep E196 (fun k hk => .inr (by simp at hk; omega))
           have hls : ∀ x9 ∈ (L.map opLab), RdC w195 0 w.heap.size 1 x9.1 x9.2.length (x9.2.map u16v) := fun x9 hx9 => (hls x9 hx9).keep E196 (fun k hk => .inr (by simp at hk; omega))
           have hrs : ∀ x9 ∈ (L.map opRds), RdC w195 0 w.heap.size 1 x9.1 x9.2.length (x9.2.map sv) := fun x9 hx9 => (hrs x9 hx9).keep E196 (fun k hk => .inr (by simp at hk; omega))
           have hLi := hLi.keep E196 (fun k hk => .inr (by simp at hk; omega))
           have hRi := hRi.keep E196 (fun k hk => .inr (by simp at hk; omega))
           have hB62 := hB62.keep E196 (fun hh => hB62.ne hIN_old (by decide) (Option.some.inj hh))
           have hST := hST.keep E196 (fun hh => hST.ne hIN_old (by decide) (Option.some.inj hh))
           have hl101 := hl101.keepG (Gr.of E196) (Dj.one dj108)
           have hb := below_step1 hb E196 hb.size (by omega)
           have hIN : Bx w195 b39 100 ((((IN.set (tix 8 (opN (L.getD i dOp))) true).set (tix 8 (opN (L.getD i dOp))) false).map Value.bool)) := row_set hIN
           refine reg_nil ?_
           refine hK194 _ _ ?_
           refine seq_any fun K197 hK197 => ?_
           refine one_reg ?_
           refine op_move (ev_base hN93 rfl s93_3) ?_
           refine op_move (ev_base hN93 rfl s93_8) ?_
           refine op_fn (vs := [(ptr k34 0), (Value.int .i64 (((tix 8 (opN (L.getD i dOp))) : Nat) : Int))]) ok57 ⟨(ev_hit hN93 rfl), ⟨(ev_hit hN93 rfl), trivial⟩⟩ (LeaveR (n := (((tix 8 (opN (L.getD i dOp))) : Nat) : Int)) (by omega) hl101) ?_
           rintro _ w199 ⟨E200, rfl, F198, hl198, hN198⟩
           have bd201 := hB62.lt
           have bd202 := hST.lt
           have bd203 := hIN.lt
           have hl101_old := hl101
           have z_w199 := E200.size
           have hr := hr.keepG E200 (fun k hk => .inr (by have := hl101_old.lt k hk; omega))
           have hls : ∀ x9 ∈ (L.map opLab), RdC w199 0 w.heap.size 1 x9.1 x9.2.length (x9.2.map u16v) := fun x9 hx9 => (hls x9 hx9).keepG E200 (fun k hk => .inr (by have := hl101_old.lt k hk; omega))
           have hrs : ∀ x9 ∈ (L.map opRds), RdC w199 0 w.heap.size 1 x9.1 x9.2.length (x9.2.map sv) := fun x9 hx9 => (hrs x9 hx9).keepG E200 (fun k hk => .inr (by have := hl101_old.lt k hk; omega))
           have hLi := hLi.keepG E200 (fun k hk => .inr (by have := hl101_old.lt k hk; omega))
           have hRi := hRi.keepG E200 (fun k hk => .inr (by have := hl101_old.lt k hk; omega))
           have hB62 := hB62.keepG E200 dj107
           have hST := hST.keepG E200 dj109
           have hIN := hIN.keepG E200 dj108
           have hb := below_stepG hb E200 hb.size (fun k hk => (hl101_old.lt k hk).1)
           have dj204 : ¬ F198 b60 := ne_stepF hN198 bd201 dj107
           have dj205 : ¬ F198 b45 := ne_stepF hN198 bd202 dj109
           have dj206 : ¬ F198 b39 := ne_stepF hN198 bd203 dj108
           refine op_neq (ev_hit hN93 rfl) rfl (fun c116 => ?_) (fun c116 => ?_)
           · -- 116T
            exact absurd hLv.1 c116
           · -- 116F
            refine reg_nil ?_
            refine hK197 _ _ ?_
            refine wp_cond_false (ev_hit hN93 rfl) ?_
            refine wp_skip ?_
            refine hK54 _ _ ?_
            refine one_reg ?_
            refine op_move (ev_base hN93 rfl s93_6) ?_
            refine op_add (ev_hit hN93 rfl) rfl (add64 (by omega)) ?_
            refine op_assign (ev_hit hN93 rfl) ?_
            refine reg_nil ?_
            -- round 18F 23T 31T 41T 54F 56F 88F 90F 97F 104T 116F
            exact loop_next _ hN93 hd93 ⟨(i + 1), mdel (askM (enterM M (((tix 8 (opN (L.getD i dOp))) : Nat) : Int) ([] : List UInt16) ((((ST.set (tix 8 (opN (L.getD i dOp))) i).getD (tix 8 (opN (L.getD i dOp))) 0) : Nat) : Int)) (((tix 8 (opN (L.getD i dOp))) : Nat) : Int) (opR (L.getD i dOp)) (opW (L.getD i dOp))) (((tix 8 (opN (L.getD i dOp))) : Nat) : Int), ((IN.set (tix 8 (opN (L.getD i dOp))) true).set (tix 8 (opN (L.getD i dOp))) false), (ST.set (tix 8 (opN (L.getD i dOp))) i), F198, rfl, (sl_base hN93 rfl s93_0), (sl_base hN93 rfl s93_3), (sl_base hN93 rfl s93_4), (sl_base hN93 rfl s93_5), (sl_hit hN93 rfl).trans (congrArg (Value.int .i64) (by omega)), (by omega), (hLv.2.mono (by omega)), dj206, dj205, hb, (by omega), hr, hls, hrs, hl198, hIN, hST⟩ (by omega)
          · -- 104F
           refine op_move (ev_hit hN93 rfl) ?_
           refine g_true (j := 2) (dj := 105) (b := false) rfl rfl rfl (ev_hit hN93 rfl) ?_
           refine op_field fld103_0 (ev_base hN93 rfl s93_7) ?_
           refine g_true (j := 2) (dj := 105) (b := false) rfl rfl rfl (ev_hit hN93 rfl) ?_
           refine op_load1 (v := (Value.int .i64 (opK (L.getD i dOp)))) one3 (ev_hit hN93 rfl) (hB62.cell rfl) ?_
           refine g_true (j := 2) (dj := 105) (b := false) rfl rfl rfl (ev_hit hN93 rfl) ?_
           refine op_rem (r := (Int.tmod (opK (L.getD i dOp)) 5)) (ev_hit hN93 rfl) rfl (by decide) rfl ?_
           refine g_true (j := 2) (dj := 105) (b := false) rfl rfl rfl (ev_hit hN93 rfl) ?_
           refine op_eql (ev_hit hN93 rfl) rfl (fun c109 => ?_) (fun c109 => ?_)
           · -- 109T
            refine op_pick_f (ev_hit hN93 rfl) (ev_hit hN93 rfl) ?_
            refine reg_nil ?_
            refine hK193 _ _ ?_
            refine wp_cond_true (ev_hit hN93 rfl) ?_
            refine seq_any fun K207 hK207 => ?_
            refine one_reg ?_
            have hLv := hAk.2.1.leave ht8 hIT
            refine op_move (ev_base hN93 rfl s93_8) ?_
            refine op_index_arr1 (j := (tix 8 (opN (L.getD i dOp)))) arr100 (ev_base hN93 rfl s93_4) (ev_hit hN93 rfl) (by omega) (by omega) ?_
            have hIN_old := hIN
            refine op_store_row (v := (Value.bool false)) size4 (ev_hit hN93 rfl) rfl rfl rfl hIN (by rw [List.length_map]; omega) ?_
            intro w208 hIN E209
            have z_w208 := E209.size
            have hr := hr.keep E209 (fun k hk => .inr (by simp at hk; omega))
            have hls : ∀ x9 ∈ (L.map opLab), RdC w208 0 w.heap.size 1 x9.1 x9.2.length (x9.2.map u16v) := fun x9 hx9 => (hls x9 hx9).keep E209 (fun k hk => .inr (by simp at hk; omega))
            have hrs : ∀ x9 ∈ (L.map opRds), RdC w208 0 w.heap.size 1 x9.1 x9.2.length (x9.2.map sv) := fun x9 hx9 => (hrs x9 hx9).keep E209 (fun k hk => .inr (by simp at hk; omega))
            have hLi := hLi.keep E209 (fun k hk => .inr (by simp at hk; omega))
            have hRi := hRi.keep E209 (fun k hk => .inr (by simp at hk; omega))
            have hB62 := hB62.keep E209 (fun hh => hB62.ne hIN_old (by decide) (Option.some.inj hh))
            have hST := hST.keep E209 (fun hh => hST.ne hIN_old (by decide) (Option.some.inj hh))
            have hl101 := hl101.keepG (Gr.of E209) (Dj.one dj108)
            have hb := below_step1 hb E209 hb.size (by omega)
            have hIN : Bx w208 b39 100 ((((IN.set (tix 8 (opN (L.getD i dOp))) true).set (tix 8 (opN (L.getD i dOp))) false).map Value.bool)) := row_set hIN
            refine reg_nil ?_
            refine hK207 _ _ ?_
            refine seq_any fun K210 hK210 => ?_
            refine one_reg ?_
            refine op_move (ev_base hN93 rfl s93_3) ?_
            refine op_move (ev_base hN93 rfl s93_8) ?_
            refine op_fn (vs := [(ptr k34 0), (Value.int .i64 (((tix 8 (opN (L.getD i dOp))) : Nat) : Int))]) ok57 ⟨(ev_hit hN93 rfl), ⟨(ev_hit hN93 rfl), trivial⟩⟩ (LeaveR (n := (((tix 8 (opN (L.getD i dOp))) : Nat) : Int)) (by omega) hl101) ?_
            rintro _ w212 ⟨E213, rfl, F211, hl211, hN211⟩
            have bd214 := hB62.lt
            have bd215 := hST.lt
            have bd216 := hIN.lt
            have hl101_old := hl101
            have z_w212 := E213.size
            have hr := hr.keepG E213 (fun k hk => .inr (by have := hl101_old.lt k hk; omega))
            have hls : ∀ x9 ∈ (L.map opLab), RdC w212 0 w.heap.size 1 x9.1 x9.2.length (x9.2.map u16v) := fun x9 hx9 => (hls x9 hx9).keepG E213 (fun k hk => .inr (by have := hl101_old.lt k hk; omega))
            have hrs : ∀ x9 ∈ (L.map opRds), RdC w212 0 w.heap.size 1 x9.1 x9.2.length (x9.2.map sv) := fun x9 hx9 => (hrs x9 hx9).keepG E213 (fun k hk => .inr (by have := hl101_old.lt k hk; omega))
            have hLi := hLi.keepG E213 (fun k hk => .inr (by have := hl101_old.lt k hk; omega))
            have hRi := hRi.keepG E213 (fun k hk => .inr (by have := hl101_old.lt k hk; omega))
            have hB62 := hB62.keepG E213 dj107
            have hST := hST.keepG E213 dj109
            have hIN := hIN.keepG E213 dj108
            have hb := below_stepG hb E213 hb.size (fun k hk => (hl101_old.lt k hk).1)
            have dj217 : ¬ F211 b60 := ne_stepF hN211 bd214 dj107
            have dj218 : ¬ F211 b45 := ne_stepF hN211 bd215 dj109
            have dj219 : ¬ F211 b39 := ne_stepF hN211 bd216 dj108
            refine op_neq (ev_hit hN93 rfl) rfl (fun c116 => ?_) (fun c116 => ?_)
            · -- 116T
             exact absurd hLv.1 c116
            · -- 116F
             refine reg_nil ?_
             refine hK210 _ _ ?_
             refine wp_cond_false (ev_hit hN93 rfl) ?_
             refine wp_skip ?_
             refine hK54 _ _ ?_
             refine one_reg ?_
             refine op_move (ev_base hN93 rfl s93_6) ?_
             refine op_add (ev_hit hN93 rfl) rfl (add64 (by omega)) ?_
             refine op_assign (ev_hit hN93 rfl) ?_
             refine reg_nil ?_
             -- round 18F 23T 31T 41T 54F 56F 88F 90F 97F 104F 109T 116F
             exact loop_next _ hN93 hd93 ⟨(i + 1), mdel (askM (enterM M (((tix 8 (opN (L.getD i dOp))) : Nat) : Int) ([] : List UInt16) ((((ST.set (tix 8 (opN (L.getD i dOp))) i).getD (tix 8 (opN (L.getD i dOp))) 0) : Nat) : Int)) (((tix 8 (opN (L.getD i dOp))) : Nat) : Int) (opR (L.getD i dOp)) (opW (L.getD i dOp))) (((tix 8 (opN (L.getD i dOp))) : Nat) : Int), ((IN.set (tix 8 (opN (L.getD i dOp))) true).set (tix 8 (opN (L.getD i dOp))) false), (ST.set (tix 8 (opN (L.getD i dOp))) i), F211, rfl, (sl_base hN93 rfl s93_0), (sl_base hN93 rfl s93_3), (sl_base hN93 rfl s93_4), (sl_base hN93 rfl s93_5), (sl_hit hN93 rfl).trans (congrArg (Value.int .i64) (by omega)), (by omega), (hLv.2.mono (by omega)), dj219, dj218, hb, (by omega), hr, hls, hrs, hl211, hIN, hST⟩ (by omega)
           · -- 109F
            refine op_pick_f (ev_hit hN93 rfl) (ev_hit hN93 rfl) ?_
            refine reg_nil ?_
            refine hK193 _ _ ?_
            refine wp_cond_false (ev_hit hN93 rfl) ?_
            refine wp_skip ?_
            refine hK54 _ _ ?_
            refine one_reg ?_
            refine op_move (ev_base hN93 rfl s93_6) ?_
            refine op_add (ev_hit hN93 rfl) rfl (add64 (by omega)) ?_
            refine op_assign (ev_hit hN93 rfl) ?_
            refine reg_nil ?_
            -- round 18F 23T 31T 41T 54F 56F 88F 90F 97F 104F 109F
            exact loop_next _ hN93 hd93 ⟨(i + 1), askM (enterM M (((tix 8 (opN (L.getD i dOp))) : Nat) : Int) ([] : List UInt16) ((((ST.set (tix 8 (opN (L.getD i dOp))) i).getD (tix 8 (opN (L.getD i dOp))) 0) : Nat) : Int)) (((tix 8 (opN (L.getD i dOp))) : Nat) : Int) (opR (L.getD i dOp)) (opW (L.getD i dOp)), (IN.set (tix 8 (opN (L.getD i dOp))) true), (ST.set (tix 8 (opN (L.getD i dOp))) i), F101, rfl, (sl_base hN93 rfl s93_0), (sl_base hN93 rfl s93_3), (sl_base hN93 rfl s93_4), (sl_base hN93 rfl s93_5), (sl_hit hN93 rfl).trans (congrArg (Value.int .i64) (by omega)), (by omega), (hAk.2.1.mono (by omega)), dj108, dj109, hb, (by omega), hr, hls, hrs, hl101, hIN, hST⟩ (by omega)
    · -- 41F
     refine wp_skip ?_
     refine hK73 _ _ ?_
     refine seq_any fun K220 hK220 => ?_
     refine one_reg ?_
     have hR2 := hR.mono (m := 3 * i + 1) (Nat.le_succ _)
     have hIT : IN.getD (tix 8 (opN (L.getD i dOp))) false = true := by simpa using c41
     have hI9 := hR2.1
     have hS9 := hR2.2.1
     refine op_assign rfl ?_
     refine op_assign rfl ?_
     refine reg_nil ?_
     refine hK220 _ _ ?_
     refine seq_any fun K221 hK221 => ?_
     refine seq_any fun K222 hK222 => ?_
     refine one_reg ?_
     refine op_assign rfl ?_
     refine reg_nil ?_
     refine hK222 _ _ ?_
     refine wp_block ?_
     refine loop_m (fun mz_ az_ w' => ∃ (j : Nat), mz_ = 8 - j ∧ (az_.tmps.getD 0 undef = vL) ∧ (az_.tmps.getD 3 undef = (ptr k34 0)) ∧ (az_.tmps.getD 4 undef = (ptr b39 0)) ∧ (az_.tmps.getD 5 undef = (ptr b45 0)) ∧ (az_.tmps.getD 6 undef = (Value.int .i64 ((i : Nat) : Int))) ∧ (az_.tmps.getD 7 undef = (ptr b60 0)) ∧ (az_.tmps.getD 8 undef = (Value.int .i64 (((tix 8 (opN (L.getD i dOp))) : Nat) : Int))) ∧ (az_.tmps.getD 11 undef = (Value.int .i64 ((j : Nat) : Int))) ∧ (az_.tmps.getD 9 undef = (Value.bool (eldB IN ST (tix 8 (opN (L.getD i dOp))) j))) ∧ (az_.tmps.getD 10 undef = (Value.bool (aloB IN (tix 8 (opN (L.getD i dOp))) j))) ∧ (j ≤ 8) ∧ (Below w.heap.size w w') ∧ (w70.heap.size ≤ w'.heap.size) ∧ (RdC w' 0 w.heap.size 6 vL L.length (L.flatMap cellsOp)) ∧ (∀ x9 ∈ (L.map opLab), RdC w' 0 w.heap.size 1 x9.1 x9.2.length (x9.2.map u16v)) ∧ (∀ x9 ∈ (L.map opRds), RdC w' 0 w.heap.size 1 x9.1 x9.2.length (x9.2.map sv)) ∧ (LocksR w' w.heap.size k34 M FK) ∧ (Bx w' b39 100 ((IN.map Value.bool))) ∧ (Bx w' b45 101 ((ST.map nU))) ∧ (RdC w' 0 w.heap.size 1 (opLv (L.getD i dOp)) (opL (L.getD i dOp)).length ((opL (L.getD i dOp)).map u16v)) ∧ (RdC w' 0 w.heap.size 1 (opRv (L.getD i dOp)) (opR (L.getD i dOp)).length ((opR (L.getD i dOp)).map sv)) ∧ (Bx w' b60 103 [(Value.int .i64 (opK (L.getD i dOp))), (Value.int .i64 (opN (L.getD i dOp))), (opLv (L.getD i dOp)), (Value.int .u64 ((opS (L.getD i dOp)).toNat : Int)), (opRv (L.getD i dOp)), (Value.string (bs (opW (L.getD i dOp))))])) _ hN51 hd51 ⟨0, rfl, (sl_base hN51 rfl s51_0), (sl_base hN51 rfl s51_3), (sl_base hN51 rfl s51_4), (sl_base hN51 rfl s51_5), (sl_base hN51 rfl s51_6), (sl_hit hN51 rfl), (sl_hit hN51 rfl), (sl_hit hN51 rfl), (sl_hit hN51 rfl), (sl_hit hN51 rfl), (Nat.zero_le _), hb, (Nat.le_refl _), hr, hls, hrs, hK, hIN, hST, hLi, hRi, hB62⟩ ?_
     rintro _ a223 w223 hN223 hd223 ⟨j, rfl, s223_0, s223_3, s223_4, s223_5, s223_6, s223_7, s223_8, s223_11, s223_9, s223_10, hj, hb, zl_w223, hr, hls, hrs, hK, hIN, hST, hLi, hRi, hB62⟩
     have z_w223 := hb.size
     refine seq_any fun K224 hK224 => ?_
     refine seq_any fun K225 hK225 => ?_
     refine one_reg ?_
     refine op_move (ev_base hN223 rfl s223_11) ?_
     refine op_lss (ev_hit hN223 rfl) rfl (fun c56 => ?_) (fun c56 => ?_)
     · -- 56T
      refine reg_nil ?_
      refine hK225 _ _ ?_
      refine wp_cond_true (ev_hit hN223 rfl) ?_
      refine wp_skip ?_
      refine hK224 _ _ ?_
      refine seq_any fun K226 hK226 => ?_
      refine wp_block ?_
      refine seq_any fun K227 hK227 => ?_
      refine one_reg ?_
      refine op_move (ev_base hN223 rfl s223_11) ?_
      refine op_move (ev_base hN223 rfl s223_8) ?_
      refine op_neq (ev_hit hN223 rfl) (ev_hit hN223 rfl) (fun c61 => ?_) (fun c61 => ?_)
      · -- 61T
       refine op_move (ev_hit hN223 rfl) ?_
       refine g_true (j := 3) (dj := 62) (b := true) rfl rfl rfl (ev_hit hN223 rfl) ?_
       refine op_move (ev_base hN223 rfl s223_11) ?_
       refine g_true (j := 3) (dj := 62) (b := true) rfl rfl rfl (ev_hit hN223 rfl) ?_
       refine op_index_arr1 (j := j) arr100 (ev_base hN223 rfl s223_4) (ev_hit hN223 rfl) (by omega) (by omega) ?_
       refine g_true (j := 3) (dj := 62) (b := true) rfl rfl rfl (ev_hit hN223 rfl) ?_
       refine op_load1 (v := (Value.bool (IN.getD j false))) one4 (ev_hit hN223 rfl) (hIN.cell (row_at (d := false) (by first | omega | (simp only [List.length_set]; omega)))) ?_
       refine op_pick_t (ev_hit hN223 rfl) (ev_hit hN223 rfl) ?_
       refine reg_nil ?_
       refine hK227 _ _ ?_
       refine wp_cond_split (ev_hit hN223 rfl) (fun c66 => ?_) (fun c66 => ?_)
       · -- 66T
        refine reg_still mixed (by kernel_rfl) ?_
        intro w229 E228
        have z_w229 := E228.size
        have hr := hr.keep0 E228
        have hls : ∀ x9 ∈ (L.map opLab), RdC w229 0 w.heap.size 1 x9.1 x9.2.length (x9.2.map u16v) := fun x9 hx9 => (hls x9 hx9).keep0 E228
        have hrs : ∀ x9 ∈ (L.map opRds), RdC w229 0 w.heap.size 1 x9.1 x9.2.length (x9.2.map sv) := fun x9 hx9 => (hrs x9 hx9).keep0 E228
        have hK := hK.keepG (Gr.of0 E228 NoB) (fun _ _ h => h)
        have hIN := hIN.keep0 E228
        have hST := hST.keep0 E228
        have hLi := hLi.keep0 E228
        have hRi := hRi.keep0 E228
        have hB62 := hB62.keep0 E228
        have hb := below_step0 hb E228 hb.size
        refine st_step rfl (fun _ h9 => op_move (ev_base hN223 rfl s223_9) h9) ?_
        rcases Bool.eq_false_or_eq_true ((eldB IN ST (tix 8 (opN (L.getD i dOp))) j)) with g67 | g67
        · -- 67T
         rw [g67]
         refine st_step rfl (fun _ h9 => op_move (ev_hit hN223 rfl) h9) ?_
         refine st_g_true (j := 1) (dj := 68) (b := true) rfl rfl rfl (ev_hit hN223 rfl) ?_
         refine st_step rfl (fun _ h9 => op_move (ev_base hN223 rfl s223_8) h9) ?_
         refine st_g_true (j := 1) (dj := 68) (b := true) rfl rfl rfl (ev_hit hN223 rfl) ?_
         refine st_step rfl (fun _ h9 => op_index_arr1 (j := (tix 8 (opN (L.getD i dOp)))) arr101 (ev_base hN223 rfl s223_5) (ev_hit hN223 rfl) (by omega) (by omega) h9) ?_
         refine st_g_true (j := 1) (dj := 68) (b := true) rfl rfl rfl (ev_hit hN223 rfl) ?_
         refine st_step rfl (fun _ h9 => op_load1 (v := (Value.int .u64 (((ST.getD (tix 8 (opN (L.getD i dOp))) 0) : Nat) : Int))) one61 (ev_hit hN223 rfl) (hST.cell (row_at (d := 0) (by first | omega | (simp only [List.length_set]; omega)))) h9) ?_
         refine st_g_true (j := 1) (dj := 68) (b := true) rfl rfl rfl (ev_hit hN223 rfl) ?_
         refine st_step rfl (fun _ h9 => op_move (ev_base hN223 rfl s223_11) h9) ?_
         refine st_g_true (j := 1) (dj := 68) (b := true) rfl rfl rfl (ev_hit hN223 rfl) ?_
         refine st_step rfl (fun _ h9 => op_index_arr1 (j := j) arr101 (ev_base hN223 rfl s223_5) (ev_hit hN223 rfl) (by omega) (by omega) h9) ?_
         refine st_g_true (j := 1) (dj := 68) (b := true) rfl rfl rfl (ev_hit hN223 rfl) ?_
         refine st_step rfl (fun _ h9 => op_load1 (v := (Value.int .u64 (((ST.getD j 0) : Nat) : Int))) one61 (ev_hit hN223 rfl) (hST.cell (row_at (d := 0) (by first | omega | (simp only [List.length_set]; omega)))) h9) ?_
         refine st_g_true (j := 1) (dj := 68) (b := true) rfl rfl rfl (ev_hit hN223 rfl) ?_
         refine st_step rfl (fun _ h9 => op_cmp (b := (decide ((((ST.getD (tix 8 (opN (L.getD i dOp))) 0) : Nat) : Int) < (((ST.getD j 0) : Nat) : Int)))) (ev_hit hN223 rfl) (ev_hit hN223 rfl) (b_lss rfl) h9) ?_
         refine st_step rfl (fun _ h9 => op_pick_t (ev_hit hN223 rfl) (ev_hit hN223 rfl) h9) ?_
         have hR2 := hR.mono (m := 3 * i + 1) (Nat.le_succ _)
         have hIT : IN.getD (tix 8 (opN (L.getD i dOp))) false = true := by simpa using c41
         have hI9 := hR2.1
         have hS9 := hR2.2.1
         refine st_step rfl (fun _ h9 => op_assign (ev_hit hN223 rfl) h9) ?_
         refine st_step rfl (fun _ h9 => op_assign rfl h9) ?_
         refine st_nil ?_
         refine hK226 _ _ ?_
         refine one_reg ?_
         refine op_move (ev_base hN223 rfl s223_11) ?_
         refine op_add (ev_hit hN223 rfl) rfl (add64 (by omega)) ?_
         refine op_assign (ev_hit hN223 rfl) ?_
         refine reg_nil ?_
         -- round 18F 23T 31T 41F 56T 61T 66T 67T
         have hjt : decide (j ≠ (tix 8 (opN (L.getD i dOp)))) = true := decide_eq_true (by omega)
         exact loop_next _ hN223 hd223 ⟨(j + 1), rfl, (sl_base hN223 rfl s223_0), (sl_base hN223 rfl s223_3), (sl_base hN223 rfl s223_4), (sl_base hN223 rfl s223_5), (sl_base hN223 rfl s223_6), (sl_base hN223 rfl s223_7), (sl_base hN223 rfl s223_8), (sl_hit hN223 rfl).trans (congrArg (Value.int .i64) (by omega)), (sl_hit hN223 rfl).trans (congrArg Value.bool (by rw [eldB_step, hjt, c66, g67]; simp)), (sl_hit hN223 rfl).trans (congrArg Value.bool (by rw [aloB_step, hjt, c66]; simp)), (by omega), hb, (by omega), hr, hls, hrs, hK, hIN, hST, hLi, hRi, hB62⟩ (by omega)
        · -- 67F
         rw [g67]
         refine st_step rfl (fun _ h9 => op_move (ev_hit hN223 rfl) h9) ?_
         refine st_g_false (j := 1) (dj := 68) (b := true) rfl rfl rfl (ev_hit hN223 rfl) rfl rfl ?_
         refine st_g_false (j := 1) (dj := 68) (b := true) rfl rfl rfl (ev_hit hN223 rfl) rfl rfl ?_
         refine st_g_false (j := 1) (dj := 68) (b := true) rfl rfl rfl (ev_hit hN223 rfl) rfl rfl ?_
         refine st_g_false (j := 1) (dj := 68) (b := true) rfl rfl rfl (ev_hit hN223 rfl) rfl rfl ?_
         refine st_g_false (j := 1) (dj := 68) (b := true) rfl rfl rfl (ev_hit hN223 rfl) rfl rfl ?_
         refine st_g_false (j := 1) (dj := 68) (b := true) rfl rfl rfl (ev_hit hN223 rfl) rfl rfl ?_
         refine st_g_false (j := 1) (dj := 68) (b := true) rfl rfl rfl (ev_hit hN223 rfl) rfl rfl ?_
         refine st_step rfl (fun _ h9 => op_pick_f (ev_hit hN223 rfl) rfl h9) ?_
         have hR2 := hR.mono (m := 3 * i + 1) (Nat.le_succ _)
         have hIT : IN.getD (tix 8 (opN (L.getD i dOp))) false = true := by simpa using c41
         have hI9 := hR2.1
         have hS9 := hR2.2.1
         refine st_step rfl (fun _ h9 => op_assign (ev_hit hN223 rfl) h9) ?_
         refine st_step rfl (fun _ h9 => op_assign rfl h9) ?_
         refine st_nil ?_
         refine hK226 _ _ ?_
         refine one_reg ?_
         refine op_move (ev_base hN223 rfl s223_11) ?_
         refine op_add (ev_hit hN223 rfl) rfl (add64 (by omega)) ?_
         refine op_assign (ev_hit hN223 rfl) ?_
         refine reg_nil ?_
         -- round 18F 23T 31T 41F 56T 61T 66T 67F
         have hjt : decide (j ≠ (tix 8 (opN (L.getD i dOp)))) = true := decide_eq_true (by omega)
         exact loop_next _ hN223 hd223 ⟨(j + 1), rfl, (sl_base hN223 rfl s223_0), (sl_base hN223 rfl s223_3), (sl_base hN223 rfl s223_4), (sl_base hN223 rfl s223_5), (sl_base hN223 rfl s223_6), (sl_base hN223 rfl s223_7), (sl_base hN223 rfl s223_8), (sl_hit hN223 rfl).trans (congrArg (Value.int .i64) (by omega)), (sl_hit hN223 rfl).trans (congrArg Value.bool (by rw [eldB_step, hjt, c66, g67]; simp)), (sl_hit hN223 rfl).trans (congrArg Value.bool (by rw [aloB_step, hjt, c66]; simp)), (by omega), hb, (by omega), hr, hls, hrs, hK, hIN, hST, hLi, hRi, hB62⟩ (by omega)
       · -- 66F
        refine wp_skip ?_
        refine hK226 _ _ ?_
        refine one_reg ?_
        refine op_move (ev_base hN223 rfl s223_11) ?_
        refine op_add (ev_hit hN223 rfl) rfl (add64 (by omega)) ?_
        refine op_assign (ev_hit hN223 rfl) ?_
        refine reg_nil ?_
        -- round 18F 23T 31T 41F 56T 61T 66F
        have hjt : decide (j ≠ (tix 8 (opN (L.getD i dOp)))) = true := decide_eq_true (by omega)
        exact loop_next _ hN223 hd223 ⟨(j + 1), rfl, (sl_base hN223 rfl s223_0), (sl_base hN223 rfl s223_3), (sl_base hN223 rfl s223_4), (sl_base hN223 rfl s223_5), (sl_base hN223 rfl s223_6), (sl_base hN223 rfl s223_7), (sl_base hN223 rfl s223_8), (sl_hit hN223 rfl).trans (congrArg (Value.int .i64) (by omega)), (sl_base hN223 rfl s223_9).trans (congrArg Value.bool (by rw [eldB_step, hjt, c66]; simp)), (sl_base hN223 rfl s223_10).trans (congrArg Value.bool (by rw [aloB_step, hjt, c66]; simp)), (by omega), hb, (by omega), hr, hls, hrs, hK, hIN, hST, hLi, hRi, hB62⟩ (by omega)
      · -- 61F
       refine op_move (ev_hit hN223 rfl) ?_
       refine g_false (j := 3) (dj := 62) (b := true) rfl rfl rfl (ev_hit hN223 rfl) rfl rfl ?_
       refine g_false (j := 3) (dj := 62) (b := true) rfl rfl rfl (ev_hit hN223 rfl) rfl rfl ?_
       refine g_false (j := 3) (dj := 62) (b := true) rfl rfl rfl (ev_hit hN223 rfl) rfl rfl ?_
       refine op_pick_f (ev_hit hN223 rfl) rfl ?_
       refine reg_nil ?_
       refine hK227 _ _ ?_
       refine wp_cond_false (ev_hit hN223 rfl) ?_
       refine wp_skip ?_
       refine hK226 _ _ ?_
       refine one_reg ?_
       refine op_move (ev_base hN223 rfl s223_11) ?_
       refine op_add (ev_hit hN223 rfl) rfl (add64 (by omega)) ?_
       refine op_assign (ev_hit hN223 rfl) ?_
       refine reg_nil ?_
       -- round 18F 23T 31T 41F 56T 61F
       have hjt : decide (j ≠ (tix 8 (opN (L.getD i dOp)))) = false := decide_eq_false (by omega)
       exact loop_next _ hN223 hd223 ⟨(j + 1), rfl, (sl_base hN223 rfl s223_0), (sl_base hN223 rfl s223_3), (sl_base hN223 rfl s223_4), (sl_base hN223 rfl s223_5), (sl_base hN223 rfl s223_6), (sl_base hN223 rfl s223_7), (sl_base hN223 rfl s223_8), (sl_hit hN223 rfl).trans (congrArg (Value.int .i64) (by omega)), (sl_base hN223 rfl s223_9).trans (congrArg Value.bool (by rw [eldB_step, hjt]; simp)), (sl_base hN223 rfl s223_10).trans (congrArg Value.bool (by rw [aloB_step, hjt]; simp)), (by omega), hb, (by omega), hr, hls, hrs, hK, hIN, hST, hLi, hRi, hB62⟩ (by omega)
     · -- 56F
      refine reg_nil ?_
      refine hK225 _ _ ?_
      refine wp_cond_false (ev_hit hN223 rfl) ?_
      refine wp_exit (then_exit (then_exit (blk_hit ?_)))
      refine hK221 _ _ ?_
      refine seq_any fun K230 hK230 => ?_
      refine one_reg ?_
      have hAk := hR2.ask (t := (tix 8 (opN (L.getD i dOp)))) (R := opR (L.getD i dOp)) (x := opW (L.getD i dOp)) ht8 hIT hlg.2.1
      have hj8 : j = 8 := by omega
      refine op_move (ev_base hN223 rfl s223_3) ?_
      refine op_move (ev_base hN223 rfl s223_8) ?_
      refine op_field fld103_4 (ev_base hN223 rfl s223_7) ?_
      refine op_load1 (v := (opRv (L.getD i dOp))) one26 (ev_hit hN223 rfl) (hB62.cell rfl) ?_
      refine op_field fld103_5 (ev_base hN223 rfl s223_7) ?_
      refine op_load1 (v := (Value.string (bs (opW (L.getD i dOp))))) one9 (ev_hit hN223 rfl) (hB62.cell rfl) ?_
      refine op_fn (vs := [(ptr k34 0), (Value.int .i64 (((tix 8 (opN (L.getD i dOp))) : Nat) : Int)), (opRv (L.getD i dOp)), (Value.string (bs (opW (L.getD i dOp))))]) ok55 ⟨(ev_hit hN223 rfl), ⟨(ev_hit hN223 rfl), ⟨(ev_hit hN223 rfl), ⟨(ev_hit hN223 rfl), trivial⟩⟩⟩⟩ (AskR (n := (((tix 8 (opN (L.getD i dOp))) : Nat) : Int)) (Rs := (opR (L.getD i dOp))) (x := (opW (L.getD i dOp))) (by omega) (hR.2.2.1.ok (by omega)) (hR.2.2.1.sm (by omega)) (by have := hlg.2.1; omega) hRi (by omega) (fun y hy => .inr (hK.lt y hy).1) hK) ?_
      rintro _ w232 ⟨E233, rfl, F231, hl231, hN231⟩
      have bd234 := hIN.lt
      have bd235 := hST.lt
      have bd236 := hB62.lt
      have hK_old := hK
      have z_w232 := E233.size
      have hr := hr.keepG E233 (fun k hk => .inr (by have := hK_old.lt k hk; omega))
      have hls : ∀ x9 ∈ (L.map opLab), RdC w232 0 w.heap.size 1 x9.1 x9.2.length (x9.2.map u16v) := fun x9 hx9 => (hls x9 hx9).keepG E233 (fun k hk => .inr (by have := hK_old.lt k hk; omega))
      have hrs : ∀ x9 ∈ (L.map opRds), RdC w232 0 w.heap.size 1 x9.1 x9.2.length (x9.2.map sv) := fun x9 hx9 => (hrs x9 hx9).keepG E233 (fun k hk => .inr (by have := hK_old.lt k hk; omega))
      have hIN := hIN.keepG E233 djb39
      have hST := hST.keepG E233 djb45
      have hLi := hLi.keepG E233 (fun k hk => .inr (by have := hK_old.lt k hk; omega))
      have hRi := hRi.keepG E233 (fun k hk => .inr (by have := hK_old.lt k hk; omega))
      have hB62 := hB62.keepG E233 dj63
      have hb := below_stepG hb E233 hb.size (fun k hk => (hK_old.lt k hk).1)
      have dj237 : ¬ F231 b39 := ne_stepF hN231 bd234 djb39
      have dj238 : ¬ F231 b45 := ne_stepF hN231 bd235 djb45
      have dj239 : ¬ F231 b60 := ne_stepF hN231 bd236 dj63
      refine op_move (ev_hit hN223 rfl) ?_
      refine op_extract (ev_hit hN223 rfl) rfl ?_
      refine op_extract (ev_hit hN223 rfl) rfl ?_
      refine op_assign (ev_hit hN223 rfl) ?_
      refine op_assign (ev_hit hN223 rfl) ?_
      refine reg_nil ?_
      refine hK230 _ _ ?_
      refine seq_any fun K240 hK240 => ?_
      refine seq_any fun K241 hK241 => ?_
      refine one_reg ?_
      refine op_move (ev_hit hN223 rfl) ?_
      refine op_neq (ev_hit hN223 rfl) rfl (fun c88 => ?_) (fun c88 => ?_)
      · -- 88T
       exact absurd hAk.1 c88
      · -- 88F
       refine op_move (ev_hit hN223 rfl) ?_
       refine g_true (j := 2) (dj := 89) (b := false) rfl rfl rfl (ev_hit hN223 rfl) ?_
       rcases Bool.eq_false_or_eq_true ((eldB IN ST (tix 8 (opN (L.getD i dOp))) j)) with c90 | c90
       · -- 90T
        try rw [c90]
        refine op_move ((ev_base hN223 rfl s223_9).trans (congrArg Value.bool c90)) ?_
        refine g_true (j := 2) (dj := 89) (b := false) rfl rfl rfl (ev_hit hN223 rfl) ?_
        refine op_move (ev_hit hN223 rfl) ?_
        refine g_true (j := 4) (dj := 91) (b := true) rfl rfl rfl (ev_hit hN223 rfl) ?_
        refine op_move (ev_hit hN223 rfl) ?_
        refine g_true (j := 4) (dj := 91) (b := true) rfl rfl rfl (ev_hit hN223 rfl) ?_
        refine op_eql (ev_hit hN223 rfl) rfl (fun c93 => ?_) (fun c93 => ?_)
        · -- 93T
         exact absurd c93 (hAk.2.2.1 (by rw [hj8] at c90; exact c90))
        · -- 93F
         refine g_true (j := 2) (dj := 89) (b := false) rfl rfl rfl (ev_hit hN223 rfl) ?_
         refine op_pick_t (ev_hit hN223 rfl) (ev_hit hN223 rfl) ?_
         refine op_pick_f (ev_hit hN223 rfl) (ev_hit hN223 rfl) ?_
         refine op_move (ev_hit hN223 rfl) ?_
         refine g_true (j := 9) (dj := 96) (b := false) rfl rfl rfl (ev_hit hN223 rfl) ?_
         rcases Bool.eq_false_or_eq_true ((aloB IN (tix 8 (opN (L.getD i dOp))) j)) with c97 | c97
         · -- 97T
          try rw [c97]
          refine op_move ((ev_base hN223 rfl s223_10).trans (congrArg Value.bool c97)) ?_
          refine g_true (j := 9) (dj := 96) (b := false) rfl rfl rfl (ev_hit hN223 rfl) ?_
          refine op_move (ev_hit hN223 rfl) ?_
          refine g_true (j := 11) (dj := 98) (b := true) rfl rfl rfl (ev_hit hN223 rfl) ?_
          refine op_move (ev_hit hN223 rfl) ?_
          refine g_true (j := 11) (dj := 98) (b := true) rfl rfl rfl (ev_hit hN223 rfl) ?_
          refine op_neq (ev_hit hN223 rfl) rfl (fun c100 => ?_) (fun c100 => ?_)
          · -- 100T
           exact absurd (hAk.2.2.2 (by rw [hj8] at c97; exact c97)) c100
          · -- 100F
           refine g_true (j := 9) (dj := 96) (b := false) rfl rfl rfl (ev_hit hN223 rfl) ?_
           refine op_pick_t (ev_hit hN223 rfl) (ev_hit hN223 rfl) ?_
           refine op_pick_f (ev_hit hN223 rfl) (ev_hit hN223 rfl) ?_
           refine reg_nil ?_
           refine hK241 _ _ ?_
           refine wp_cond_false (ev_hit hN223 rfl) ?_
           refine wp_skip ?_
           refine hK240 _ _ ?_
           refine seq_any fun K242 hK242 => ?_
           refine one_reg ?_
           refine op_move (ev_hit hN223 rfl) ?_
           refine op_eql (ev_hit hN223 rfl) rfl (fun c104 => ?_) (fun c104 => ?_)
           · -- 104T
            refine op_move (ev_hit hN223 rfl) ?_
            refine g_false (j := 2) (dj := 105) (b := false) rfl rfl rfl (ev_hit hN223 rfl) rfl rfl ?_
            refine g_false (j := 2) (dj := 105) (b := false) rfl rfl rfl (ev_hit hN223 rfl) rfl rfl ?_
            refine g_false (j := 2) (dj := 105) (b := false) rfl rfl rfl (ev_hit hN223 rfl) rfl rfl ?_
            refine g_false (j := 2) (dj := 105) (b := false) rfl rfl rfl (ev_hit hN223 rfl) rfl rfl ?_
            refine op_pick_t (ev_hit hN223 rfl) rfl ?_
            refine reg_nil ?_
            refine hK242 _ _ ?_
            refine wp_cond_true (ev_hit hN223 rfl) ?_
            refine seq_any fun K243 hK243 => ?_
            refine one_reg ?_
            have hLv := hAk.2.1.leave ht8 hIT
            refine op_move (ev_base hN223 rfl s223_8) ?_
            refine op_index_arr1 (j := (tix 8 (opN (L.getD i dOp)))) arr100 (ev_base hN223 rfl s223_4) (ev_hit hN223 rfl) (by omega) (by omega) ?_
            have hIN_old := hIN
            refine op_store_row (v := (Value.bool false)) size4 (ev_hit hN223 rfl) rfl rfl rfl hIN (by rw [List.length_map]; omega) ?_
            intro w244 hIN E245
            have z_w244 := E245.size
            have hr := hr.keep E245 (fun k hk => .inr (by simp at hk; omega))
            have hls : ∀ x9 ∈ (L.map opLab), RdC w244 0 w.heap.size 1 x9.1 x9.2.length (x9.2.map u16v) := fun x9 hx9 => (hls x9 hx9).keep E245 (fun k hk => .inr (by simp at hk; omega))
            have hrs : ∀ x9 ∈ (L.map opRds), RdC w244 0 w.heap.size 1 x9.1 x9.2.length (x9.2.map sv) := fun x9 hx9 => (hrs x9 hx9).keep E245 (fun k hk => .inr (by simp at hk; omega))
            have hST := hST.keep E245 (fun hh => hST.ne hIN_old (by decide) (Option.some.inj hh))
            have hLi := hLi.keep E245 (fun k hk => .inr (by simp at hk; omega))
            have hRi := hRi.keep E245 (fun k hk => .inr (by simp at hk; omega))
            have hB62 := hB62.keep E245 (fun hh => hB62.ne hIN_old (by decide) (Option.some.inj hh))
            have hl231 := hl231.keepG (Gr.of E245) (Dj.one dj237)
            have hb := below_step1 hb E245 hb.size (by omega)
            have hIN : Bx w244 b39 100 (((IN.set (tix 8 (opN (L.getD i dOp))) false).map Value.bool)) := row_set hIN
            refine reg_nil ?_
            refine hK243 _ _ ?_
            refine seq_any fun K246 hK246 => ?_
            refine one_reg ?_
            refine op_move (ev_base hN223 rfl s223_3) ?_
            refine op_move (ev_base hN223 rfl s223_8) ?_
            refine op_fn (vs := [(ptr k34 0), (Value.int .i64 (((tix 8 (opN (L.getD i dOp))) : Nat) : Int))]) ok57 ⟨(ev_hit hN223 rfl), ⟨(ev_hit hN223 rfl), trivial⟩⟩ (LeaveR (n := (((tix 8 (opN (L.getD i dOp))) : Nat) : Int)) (by omega) hl231) ?_
            rintro _ w248 ⟨E249, rfl, F247, hl247, hN247⟩
            have bd250 := hST.lt
            have bd251 := hB62.lt
            have bd252 := hIN.lt
            have hl231_old := hl231
            have z_w248 := E249.size
            have hr := hr.keepG E249 (fun k hk => .inr (by have := hl231_old.lt k hk; omega))
            have hls : ∀ x9 ∈ (L.map opLab), RdC w248 0 w.heap.size 1 x9.1 x9.2.length (x9.2.map u16v) := fun x9 hx9 => (hls x9 hx9).keepG E249 (fun k hk => .inr (by have := hl231_old.lt k hk; omega))
            have hrs : ∀ x9 ∈ (L.map opRds), RdC w248 0 w.heap.size 1 x9.1 x9.2.length (x9.2.map sv) := fun x9 hx9 => (hrs x9 hx9).keepG E249 (fun k hk => .inr (by have := hl231_old.lt k hk; omega))
            have hST := hST.keepG E249 dj238
            have hLi := hLi.keepG E249 (fun k hk => .inr (by have := hl231_old.lt k hk; omega))
            have hRi := hRi.keepG E249 (fun k hk => .inr (by have := hl231_old.lt k hk; omega))
            have hB62 := hB62.keepG E249 dj239
            have hIN := hIN.keepG E249 dj237
            have hb := below_stepG hb E249 hb.size (fun k hk => (hl231_old.lt k hk).1)
            have dj253 : ¬ F247 b45 := ne_stepF hN247 bd250 dj238
            have dj254 : ¬ F247 b60 := ne_stepF hN247 bd251 dj239
            have dj255 : ¬ F247 b39 := ne_stepF hN247 bd252 dj237
            refine op_neq (ev_hit hN223 rfl) rfl (fun c116 => ?_) (fun c116 => ?_)
            · -- 116T
             exact absurd hLv.1 c116
            · -- 116F
             refine reg_nil ?_
             refine hK246 _ _ ?_
             refine wp_cond_false (ev_hit hN223 rfl) ?_
             refine wp_skip ?_
             refine hK54 _ _ ?_
             refine one_reg ?_
             refine op_move (ev_base hN223 rfl s223_6) ?_
             refine op_add (ev_hit hN223 rfl) rfl (add64 (by omega)) ?_
             refine op_assign (ev_hit hN223 rfl) ?_
             refine reg_nil ?_
             -- round 18F 23T 31T 41F 56F 88F 90T 93F 97T 100F 104T 116F
             exact loop_next _ hN223 hd223 ⟨(i + 1), mdel (askM M (((tix 8 (opN (L.getD i dOp))) : Nat) : Int) (opR (L.getD i dOp)) (opW (L.getD i dOp))) (((tix 8 (opN (L.getD i dOp))) : Nat) : Int), (IN.set (tix 8 (opN (L.getD i dOp))) false), ST, F247, rfl, (sl_base hN223 rfl s223_0), (sl_base hN223 rfl s223_3), (sl_base hN223 rfl s223_4), (sl_base hN223 rfl s223_5), (sl_hit hN223 rfl).trans (congrArg (Value.int .i64) (by omega)), (by omega), (hLv.2.mono (by omega)), dj255, dj253, hb, (by omega), hr, hls, hrs, hl247, hIN, hST⟩ (by omega)
           · -- 104F
            refine op_move (ev_hit hN223 rfl) ?_
            refine g_true (j := 2) (dj := 105) (b := false) rfl rfl rfl (ev_hit hN223 rfl) ?_
            refine op_field fld103_0 (ev_base hN223 rfl s223_7) ?_
            refine g_true (j := 2) (dj := 105) (b := false) rfl rfl rfl (ev_hit hN223 rfl) ?_
            refine op_load1 (v := (Value.int .i64 (opK (L.getD i dOp)))) one3 (ev_hit hN223 rfl) (hB62.cell rfl) ?_
            refine g_true (j := 2) (dj := 105) (b := false) rfl rfl rfl (ev_hit hN223 rfl) ?_
            refine op_rem (r := (Int.tmod (opK (L.getD i dOp)) 5)) (ev_hit hN223 rfl) rfl (by decide) rfl ?_
            refine g_true (j := 2) (dj := 105) (b := false) rfl rfl rfl (ev_hit hN223 rfl) ?_
            refine op_eql (ev_hit hN223 rfl) rfl (fun c109 => ?_) (fun c109 => ?_)
            · -- 109T
             refine op_pick_f (ev_hit hN223 rfl) (ev_hit hN223 rfl) ?_
             refine reg_nil ?_
             refine hK242 _ _ ?_
             refine wp_cond_true (ev_hit hN223 rfl) ?_
             refine seq_any fun K256 hK256 => ?_
             refine one_reg ?_
             have hLv := hAk.2.1.leave ht8 hIT
             refine op_move (ev_base hN223 rfl s223_8) ?_
             refine op_index_arr1 (j := (tix 8 (opN (L.getD i dOp)))) arr100 (ev_base hN223 rfl s223_4) (ev_hit hN223 rfl) (by omega) (by omega) ?_
             have hIN_old := hIN
             refine op_store_row (v := (Value.bool false)) size4 (ev_hit hN223 rfl) rfl rfl rfl hIN (by rw [List.length_map]; omega) ?_
             intro w257 hIN E258
             have z_w257 := E258.size
             have hr := hr.keep E258 (fun k hk => .inr (by simp at hk; omega))
             have hls : ∀ x9 ∈ (L.map opLab), RdC w257 0 w.heap.size 1 x9.1 x9.2.length (x9.2.map u16v) := fun x9 hx9 => (hls x9 hx9).keep E258 (fun k hk => .inr (by simp at hk; omega))
             have hrs : ∀ x9 ∈ (L.map opRds), RdC w257 0 w.heap.size 1 x9.1 x9.2.length (x9.2.map sv) := fun x9 hx9 => (hrs x9 hx9).keep E258 (fun k hk => .inr (by simp at hk; omega))
             have hST := hST.keep E258 (fun hh => hST.ne hIN_old (by decide) (Option.some.inj hh))
             have hLi := hLi.keep E258 (fun k hk => .inr (by simp at hk; omega))
             have hRi := hRi.keep E258 (fun k hk => .inr (by simp at hk; omega))
             have hB62 := hB62.keep E258 (fun hh => hB62.ne hIN_old (by decide) (Option.some.inj hh))
             have hl231 := hl231.keepG (Gr.of E258) (Dj.one dj237)
             have hb := below_step1 hb E258 hb.size (by omega)
             have hIN : Bx w257 b39 100 (((IN.set (tix 8 (opN (L.getD i dOp))) false).map Value.bool)) := row_set hIN
             refine reg_nil ?_
             refine hK256 _ _ ?_
             refine seq_any fun K259 hK259 => ?_
             refine one_reg ?_
             refine op_move (ev_base hN223 rfl s223_3) ?_
             refine op_move (ev_base hN223 rfl s223_8) ?_
             refine op_fn (vs := [(ptr k34 0), (Value.int .i64 (((tix 8 (opN (L.getD i dOp))) : Nat) : Int))]) ok57 ⟨(ev_hit hN223 rfl), ⟨(ev_hit hN223 rfl), trivial⟩⟩ (LeaveR (n := (((tix 8 (opN (L.getD i dOp))) : Nat) : Int)) (by omega) hl231) ?_
             rintro _ w261 ⟨E262, rfl, F260, hl260, hN260⟩
             have bd263 := hST.lt
             have bd264 := hB62.lt
             have bd265 := hIN.lt
             have hl231_old := hl231
             have z_w261 := E262.size
             have hr := hr.keepG E262 (fun k hk => .inr (by have := hl231_old.lt k hk; omega))
             have hls : ∀ x9 ∈ (L.map opLab), RdC w261 0 w.heap.size 1 x9.1 x9.2.length (x9.2.map u16v) := fun x9 hx9 => (hls x9 hx9).keepG E262 (fun k hk => .inr (by have := hl231_old.lt k hk; omega))
             have hrs : ∀ x9 ∈ (L.map opRds), RdC w261 0 w.heap.size 1 x9.1 x9.2.length (x9.2.map sv) := fun x9 hx9 => (hrs x9 hx9).keepG E262 (fun k hk => .inr (by have := hl231_old.lt k hk; omega))
             have hST := hST.keepG E262 dj238
             have hLi := hLi.keepG E262 (fun k hk => .inr (by have := hl231_old.lt k hk; omega))
             have hRi := hRi.keepG E262 (fun k hk => .inr (by have := hl231_old.lt k hk; omega))
             have hB62 := hB62.keepG E262 dj239
             have hIN := hIN.keepG E262 dj237
             have hb := below_stepG hb E262 hb.size (fun k hk => (hl231_old.lt k hk).1)
             have dj266 : ¬ F260 b45 := ne_stepF hN260 bd263 dj238
             have dj267 : ¬ F260 b60 := ne_stepF hN260 bd264 dj239
             have dj268 : ¬ F260 b39 := ne_stepF hN260 bd265 dj237
             refine op_neq (ev_hit hN223 rfl) rfl (fun c116 => ?_) (fun c116 => ?_)
             · -- 116T
              exact absurd hLv.1 c116
             · -- 116F
              refine reg_nil ?_
              refine hK259 _ _ ?_
              refine wp_cond_false (ev_hit hN223 rfl) ?_
              refine wp_skip ?_
              refine hK54 _ _ ?_
              refine one_reg ?_
              refine op_move (ev_base hN223 rfl s223_6) ?_
              refine op_add (ev_hit hN223 rfl) rfl (add64 (by omega)) ?_
              refine op_assign (ev_hit hN223 rfl) ?_
              refine reg_nil ?_
              -- round 18F 23T 31T 41F 56F 88F 90T 93F 97T 100F 104F 109T 116F
              exact loop_next _ hN223 hd223 ⟨(i + 1), mdel (askM M (((tix 8 (opN (L.getD i dOp))) : Nat) : Int) (opR (L.getD i dOp)) (opW (L.getD i dOp))) (((tix 8 (opN (L.getD i dOp))) : Nat) : Int), (IN.set (tix 8 (opN (L.getD i dOp))) false), ST, F260, rfl, (sl_base hN223 rfl s223_0), (sl_base hN223 rfl s223_3), (sl_base hN223 rfl s223_4), (sl_base hN223 rfl s223_5), (sl_hit hN223 rfl).trans (congrArg (Value.int .i64) (by omega)), (by omega), (hLv.2.mono (by omega)), dj268, dj266, hb, (by omega), hr, hls, hrs, hl260, hIN, hST⟩ (by omega)
            · -- 109F
             refine op_pick_f (ev_hit hN223 rfl) (ev_hit hN223 rfl) ?_
             refine reg_nil ?_
             refine hK242 _ _ ?_
             refine wp_cond_false (ev_hit hN223 rfl) ?_
             refine wp_skip ?_
             refine hK54 _ _ ?_
             refine one_reg ?_
             refine op_move (ev_base hN223 rfl s223_6) ?_
             refine op_add (ev_hit hN223 rfl) rfl (add64 (by omega)) ?_
             refine op_assign (ev_hit hN223 rfl) ?_
             refine reg_nil ?_
             -- round 18F 23T 31T 41F 56F 88F 90T 93F 97T 100F 104F 109F
             exact loop_next _ hN223 hd223 ⟨(i + 1), askM M (((tix 8 (opN (L.getD i dOp))) : Nat) : Int) (opR (L.getD i dOp)) (opW (L.getD i dOp)), IN, ST, F231, rfl, (sl_base hN223 rfl s223_0), (sl_base hN223 rfl s223_3), (sl_base hN223 rfl s223_4), (sl_base hN223 rfl s223_5), (sl_hit hN223 rfl).trans (congrArg (Value.int .i64) (by omega)), (by omega), (hAk.2.1.mono (by omega)), dj237, dj238, hb, (by omega), hr, hls, hrs, hl231, hIN, hST⟩ (by omega)
         · -- 97F
          try rw [c97]
          refine op_move ((ev_base hN223 rfl s223_10).trans (congrArg Value.bool c97)) ?_
          refine g_true (j := 9) (dj := 96) (b := false) rfl rfl rfl (ev_hit hN223 rfl) ?_
          refine op_move (ev_hit hN223 rfl) ?_
          refine g_false (j := 11) (dj := 98) (b := true) rfl rfl rfl (ev_hit hN223 rfl) rfl rfl ?_
          refine g_false (j := 11) (dj := 98) (b := true) rfl rfl rfl (ev_hit hN223 rfl) rfl rfl ?_
          refine g_true (j := 9) (dj := 96) (b := false) rfl rfl rfl (ev_hit hN223 rfl) ?_
          refine op_pick_f (ev_hit hN223 rfl) rfl ?_
          refine op_pick_f (ev_hit hN223 rfl) (ev_hit hN223 rfl) ?_
          refine reg_nil ?_
          refine hK241 _ _ ?_
          refine wp_cond_false (ev_hit hN223 rfl) ?_
          refine wp_skip ?_
          refine hK240 _ _ ?_
          refine seq_any fun K269 hK269 => ?_
          refine one_reg ?_
          refine op_move (ev_hit hN223 rfl) ?_
          refine op_eql (ev_hit hN223 rfl) rfl (fun c104 => ?_) (fun c104 => ?_)
          · -- 104T
           refine op_move (ev_hit hN223 rfl) ?_
           refine g_false (j := 2) (dj := 105) (b := false) rfl rfl rfl (ev_hit hN223 rfl) rfl rfl ?_
           refine g_false (j := 2) (dj := 105) (b := false) rfl rfl rfl (ev_hit hN223 rfl) rfl rfl ?_
           refine g_false (j := 2) (dj := 105) (b := false) rfl rfl rfl (ev_hit hN223 rfl) rfl rfl ?_
           refine g_false (j := 2) (dj := 105) (b := false) rfl rfl rfl (ev_hit hN223 rfl) rfl rfl ?_
           refine op_pick_t (ev_hit hN223 rfl) rfl ?_
           refine reg_nil ?_
           refine hK269 _ _ ?_
           refine wp_cond_true (ev_hit hN223 rfl) ?_
           refine seq_any fun K270 hK270 => ?_
           refine one_reg ?_
           have hLv := hAk.2.1.leave ht8 hIT
           refine op_move (ev_base hN223 rfl s223_8) ?_
           refine op_index_arr1 (j := (tix 8 (opN (L.getD i dOp)))) arr100 (ev_base hN223 rfl s223_4) (ev_hit hN223 rfl) (by omega) (by omega) ?_
           have hIN_old := hIN
           refine op_store_row (v := (Value.bool false)) size4 (ev_hit hN223 rfl) rfl rfl rfl hIN (by rw [List.length_map]; omega) ?_
           intro w271 hIN E272
           have z_w271 := E272.size
           have hr := hr.keep E272 (fun k hk => .inr (by simp at hk; omega))
           have hls : ∀ x9 ∈ (L.map opLab), RdC w271 0 w.heap.size 1 x9.1 x9.2.length (x9.2.map u16v) := fun x9 hx9 => (hls x9 hx9).keep E272 (fun k hk => .inr (by simp at hk; omega))
           have hrs : ∀ x9 ∈ (L.map opRds), RdC w271 0 w.heap.size 1 x9.1 x9.2.length (x9.2.map sv) := fun x9 hx9 => (hrs x9 hx9).keep E272 (fun k hk => .inr (by simp at hk; omega))
           have hST := hST.keep E272 (fun hh => hST.ne hIN_old (by decide) (Option.some.inj hh))
           have hLi := hLi.keep E272 (fun k hk => .inr (by simp at hk; omega))
           have hRi := hRi.keep E272 (fun k hk => .inr (by simp at hk; omega))
           have hB62 := hB62.keep E272 (fun hh => hB62.ne hIN_old (by decide) (Option.some.inj hh))
           have hl231 := hl231.keepG (Gr.of E272) (Dj.one dj237)
           have hb := below_step1 hb E272 hb.size (by omega)
           have hIN : Bx w271 b39 100 (((IN.set (tix 8 (opN (L.getD i dOp))) false).map Value.bool)) := row_set hIN
           refine reg_nil ?_
           refine hK270 _ _ ?_
           refine seq_any fun K273 hK273 => ?_
           refine one_reg ?_
           refine op_move (ev_base hN223 rfl s223_3) ?_
           refine op_move (ev_base hN223 rfl s223_8) ?_
           refine op_fn (vs := [(ptr k34 0), (Value.int .i64 (((tix 8 (opN (L.getD i dOp))) : Nat) : Int))]) ok57 ⟨(ev_hit hN223 rfl), ⟨(ev_hit hN223 rfl), trivial⟩⟩ (LeaveR (n := (((tix 8 (opN (L.getD i dOp))) : Nat) : Int)) (by omega) hl231) ?_
           rintro _ w275 ⟨E276, rfl, F274, hl274, hN274⟩
           have bd277 := hST.lt
           have bd278 := hB62.lt
           have bd279 := hIN.lt
           have hl231_old := hl231
           have z_w275 := E276.size
           have hr := hr.keepG E276 (fun k hk => .inr (by have := hl231_old.lt k hk; omega))
           have hls : ∀ x9 ∈ (L.map opLab), RdC w275 0 w.heap.size 1 x9.1 x9.2.length (x9.2.map u16v) := fun x9 hx9 => (hls x9 hx9).keepG E276 (fun k hk => .inr (by have := hl231_old.lt k hk; omega))
           have hrs : ∀ x9 ∈ (L.map opRds), RdC w275 0 w.heap.size 1 x9.1 x9.2.length (x9.2.map sv) := fun x9 hx9 => (hrs x9 hx9).keepG E276 (fun k hk => .inr (by have := hl231_old.lt k hk; omega))
           have hST := hST.keepG E276 dj238
           have hLi := hLi.keepG E276 (fun k hk => .inr (by have := hl231_old.lt k hk; omega))
           have hRi := hRi.keepG E276 (fun k hk => .inr (by have := hl231_old.lt k hk; omega))
           have hB62 := hB62.keepG E276 dj239
           have hIN := hIN.keepG E276 dj237
           have hb := below_stepG hb E276 hb.size (fun k hk => (hl231_old.lt k hk).1)
           have dj280 : ¬ F274 b45 := ne_stepF hN274 bd277 dj238
           have dj281 : ¬ F274 b60 := ne_stepF hN274 bd278 dj239
           have dj282 : ¬ F274 b39 := ne_stepF hN274 bd279 dj237
           refine op_neq (ev_hit hN223 rfl) rfl (fun c116 => ?_) (fun c116 => ?_)
           · -- 116T
            exact absurd hLv.1 c116
           · -- 116F
            refine reg_nil ?_
            refine hK273 _ _ ?_
            refine wp_cond_false (ev_hit hN223 rfl) ?_
            refine wp_skip ?_
            refine hK54 _ _ ?_
            refine one_reg ?_
            refine op_move (ev_base hN223 rfl s223_6) ?_
            refine op_add (ev_hit hN223 rfl) rfl (add64 (by omega)) ?_
            refine op_assign (ev_hit hN223 rfl) ?_
            refine reg_nil ?_
            -- round 18F 23T 31T 41F 56F 88F 90T 93F 97F 104T 116F
            exact loop_next _ hN223 hd223 ⟨(i + 1), mdel (askM M (((tix 8 (opN (L.getD i dOp))) : Nat) : Int) (opR (L.getD i dOp)) (opW (L.getD i dOp))) (((tix 8 (opN (L.getD i dOp))) : Nat) : Int), (IN.set (tix 8 (opN (L.getD i dOp))) false), ST, F274, rfl, (sl_base hN223 rfl s223_0), (sl_base hN223 rfl s223_3), (sl_base hN223 rfl s223_4), (sl_base hN223 rfl s223_5), (sl_hit hN223 rfl).trans (congrArg (Value.int .i64) (by omega)), (by omega), (hLv.2.mono (by omega)), dj282, dj280, hb, (by omega), hr, hls, hrs, hl274, hIN, hST⟩ (by omega)
          · -- 104F
           refine op_move (ev_hit hN223 rfl) ?_
           refine g_true (j := 2) (dj := 105) (b := false) rfl rfl rfl (ev_hit hN223 rfl) ?_
           refine op_field fld103_0 (ev_base hN223 rfl s223_7) ?_
           refine g_true (j := 2) (dj := 105) (b := false) rfl rfl rfl (ev_hit hN223 rfl) ?_
           refine op_load1 (v := (Value.int .i64 (opK (L.getD i dOp)))) one3 (ev_hit hN223 rfl) (hB62.cell rfl) ?_
           refine g_true (j := 2) (dj := 105) (b := false) rfl rfl rfl (ev_hit hN223 rfl) ?_
           refine op_rem (r := (Int.tmod (opK (L.getD i dOp)) 5)) (ev_hit hN223 rfl) rfl (by decide) rfl ?_
           refine g_true (j := 2) (dj := 105) (b := false) rfl rfl rfl (ev_hit hN223 rfl) ?_
           refine op_eql (ev_hit hN223 rfl) rfl (fun c109 => ?_) (fun c109 => ?_)
           · -- 109T
            refine op_pick_f (ev_hit hN223 rfl) (ev_hit hN223 rfl) ?_
            refine reg_nil ?_
            refine hK269 _ _ ?_
            refine wp_cond_true (ev_hit hN223 rfl) ?_
            refine seq_any fun K283 hK283 => ?_
            refine one_reg ?_
            have hLv := hAk.2.1.leave ht8 hIT
            refine op_move (ev_base hN223 rfl s223_8) ?_
            refine op_index_arr1 (j := (tix 8 (opN (L.getD i dOp)))) arr100 (ev_base hN223 rfl s223_4) (ev_hit hN223 rfl) (by omega) (by omega) ?_
            have hIN_old := hIN
            refine op_store_row (v := (Value.bool false)) size4 (ev_hit hN223 rfl) rfl rfl rfl hIN (by rw [List.length_map]; omega) ?_
            intro w284 hIN E285
            have z_w284 := E285.size
            have hr := hr.keep E285 (fun k hk => .inr (by simp at hk; omega))
            have hls : ∀ x9 ∈ (L.map opLab), RdC w284 0 w.heap.size 1 x9.1 x9.2.length (x9.2.map u16v) := fun x9 hx9 => (hls x9 hx9).keep E285 (fun k hk => .inr (by simp at hk; omega))
            have hrs : ∀ x9 ∈ (L.map opRds), RdC w284 0 w.heap.size 1 x9.1 x9.2.length (x9.2.map sv) := fun x9 hx9 => (hrs x9 hx9).keep E285 (fun k hk => .inr (by simp at hk; omega))
            have hST := hST.keep E285 (fun hh => hST.ne hIN_old (by decide) (Option.some.inj hh))
            have hLi := hLi.keep E285 (fun k hk => .inr (by simp at hk; omega))
            have hRi := hRi.keep E285 (fun k hk => .inr (by simp at hk; omega))
            have hB62 := hB62.keep E285 (fun hh => hB62.ne hIN_old (by decide) (Option.some.inj hh))
            have hl231 := hl231.keepG (Gr.of E285) (Dj.one dj237)
            have hb := below_step1 hb E285 hb.size (by omega)
            have hIN : Bx w284 b39 100 (((IN.set (tix 8 (opN (L.getD i dOp))) false).map Value.bool)) := row_set hIN
            refine reg_nil ?_
            refine hK283 _ _ ?_
            refine seq_any fun K286 hK286 => ?_
            refine one_reg ?_
            refine op_move (ev_base hN223 rfl s223_3) ?_
            refine op_move (ev_base hN223 rfl s223_8) ?_
            refine op_fn (vs := [(ptr k34 0), (Value.int .i64 (((tix 8 (opN (L.getD i dOp))) : Nat) : Int))]) ok57 ⟨(ev_hit hN223 rfl), ⟨(ev_hit hN223 rfl), trivial⟩⟩ (LeaveR (n := (((tix 8 (opN (L.getD i dOp))) : Nat) : Int)) (by omega) hl231) ?_
            rintro _ w288 ⟨E289, rfl, F287, hl287, hN287⟩
            have bd290 := hST.lt
            have bd291 := hB62.lt
            have bd292 := hIN.lt
            have hl231_old := hl231
            have z_w288 := E289.size
            have hr := hr.keepG E289 (fun k hk => .inr (by have := hl231_old.lt k hk; omega))
            have hls : ∀ x9 ∈ (L.map opLab), RdC w288 0 w.heap.size 1 x9.1 x9.2.length (x9.2.map u16v) := fun x9 hx9 => (hls x9 hx9).keepG E289 (fun k hk => .inr (by have := hl231_old.lt k hk; omega))
            have hrs : ∀ x9 ∈ (L.map opRds), RdC w288 0 w.heap.size 1 x9.1 x9.2.length (x9.2.map sv) := fun x9 hx9 => (hrs x9 hx9).keepG E289 (fun k hk => .inr (by have := hl231_old.lt k hk; omega))
            have hST := hST.keepG E289 dj238
            have hLi := hLi.keepG E289 (fun k hk => .inr (by have := hl231_old.lt k hk; omega))
            have hRi := hRi.keepG E289 (fun k hk => .inr (by have := hl231_old.lt k hk; omega))
            have hB62 := hB62.keepG E289 dj239
            have hIN := hIN.keepG E289 dj237
            have hb := below_stepG hb E289 hb.size (fun k hk => (hl231_old.lt k hk).1)
            have dj293 : ¬ F287 b45 := ne_stepF hN287 bd290 dj238
            have dj294 : ¬ F287 b60 := ne_stepF hN287 bd291 dj239
            have dj295 : ¬ F287 b39 := ne_stepF hN287 bd292 dj237
            refine op_neq (ev_hit hN223 rfl) rfl (fun c116 => ?_) (fun c116 => ?_)
            · -- 116T
             exact absurd hLv.1 c116
            · -- 116F
             refine reg_nil ?_
             refine hK286 _ _ ?_
             refine wp_cond_false (ev_hit hN223 rfl) ?_
             refine wp_skip ?_
             refine hK54 _ _ ?_
             refine one_reg ?_
             refine op_move (ev_base hN223 rfl s223_6) ?_
             refine op_add (ev_hit hN223 rfl) rfl (add64 (by omega)) ?_
             refine op_assign (ev_hit hN223 rfl) ?_
             refine reg_nil ?_
             -- round 18F 23T 31T 41F 56F 88F 90T 93F 97F 104F 109T 116F
             exact loop_next _ hN223 hd223 ⟨(i + 1), mdel (askM M (((tix 8 (opN (L.getD i dOp))) : Nat) : Int) (opR (L.getD i dOp)) (opW (L.getD i dOp))) (((tix 8 (opN (L.getD i dOp))) : Nat) : Int), (IN.set (tix 8 (opN (L.getD i dOp))) false), ST, F287, rfl, (sl_base hN223 rfl s223_0), (sl_base hN223 rfl s223_3), (sl_base hN223 rfl s223_4), (sl_base hN223 rfl s223_5), (sl_hit hN223 rfl).trans (congrArg (Value.int .i64) (by omega)), (by omega), (hLv.2.mono (by omega)), dj295, dj293, hb, (by omega), hr, hls, hrs, hl287, hIN, hST⟩ (by omega)
           · -- 109F
            refine op_pick_f (ev_hit hN223 rfl) (ev_hit hN223 rfl) ?_
            refine reg_nil ?_
            refine hK269 _ _ ?_
            refine wp_cond_false (ev_hit hN223 rfl) ?_
            refine wp_skip ?_
            refine hK54 _ _ ?_
            refine one_reg ?_
            refine op_move (ev_base hN223 rfl s223_6) ?_
            refine op_add (ev_hit hN223 rfl) rfl (add64 (by omega)) ?_
            refine op_assign (ev_hit hN223 rfl) ?_
            refine reg_nil ?_
            -- round 18F 23T 31T 41F 56F 88F 90T 93F 97F 104F 109F
            exact loop_next _ hN223 hd223 ⟨(i + 1), askM M (((tix 8 (opN (L.getD i dOp))) : Nat) : Int) (opR (L.getD i dOp)) (opW (L.getD i dOp)), IN, ST, F231, rfl, (sl_base hN223 rfl s223_0), (sl_base hN223 rfl s223_3), (sl_base hN223 rfl s223_4), (sl_base hN223 rfl s223_5), (sl_hit hN223 rfl).trans (congrArg (Value.int .i64) (by omega)), (by omega), (hAk.2.1.mono (by omega)), dj237, dj238, hb, (by omega), hr, hls, hrs, hl231, hIN, hST⟩ (by omega)
       · -- 90F
        try rw [c90]
        refine op_move ((ev_base hN223 rfl s223_9).trans (congrArg Value.bool c90)) ?_
        refine g_true (j := 2) (dj := 89) (b := false) rfl rfl rfl (ev_hit hN223 rfl) ?_
        refine op_move (ev_hit hN223 rfl) ?_
        refine g_false (j := 4) (dj := 91) (b := true) rfl rfl rfl (ev_hit hN223 rfl) rfl rfl ?_
        refine g_false (j := 4) (dj := 91) (b := true) rfl rfl rfl (ev_hit hN223 rfl) rfl rfl ?_
        refine g_true (j := 2) (dj := 89) (b := false) rfl rfl rfl (ev_hit hN223 rfl) ?_
        refine op_pick_f (ev_hit hN223 rfl) rfl ?_
        refine op_pick_f (ev_hit hN223 rfl) (ev_hit hN223 rfl) ?_
        refine op_move (ev_hit hN223 rfl) ?_
        refine g_true (j := 9) (dj := 96) (b := false) rfl rfl rfl (ev_hit hN223 rfl) ?_
        rcases Bool.eq_false_or_eq_true ((aloB IN (tix 8 (opN (L.getD i dOp))) j)) with c97 | c97
        · -- 97T
         try rw [c97]
         refine op_move ((ev_base hN223 rfl s223_10).trans (congrArg Value.bool c97)) ?_
         refine g_true (j := 9) (dj := 96) (b := false) rfl rfl rfl (ev_hit hN223 rfl) ?_
         refine op_move (ev_hit hN223 rfl) ?_
         refine g_true (j := 11) (dj := 98) (b := true) rfl rfl rfl (ev_hit hN223 rfl) ?_
         refine op_move (ev_hit hN223 rfl) ?_
         refine g_true (j := 11) (dj := 98) (b := true) rfl rfl rfl (ev_hit hN223 rfl) ?_
         refine op_neq (ev_hit hN223 rfl) rfl (fun c100 => ?_) (fun c100 => ?_)
         · -- 100T
          exact absurd (hAk.2.2.2 (by rw [hj8] at c97; exact c97)) c100
         · -- 100F
          refine g_true (j := 9) (dj := 96) (b := false) rfl rfl rfl (ev_hit hN223 rfl) ?_
          refine op_pick_t (ev_hit hN223 rfl) (ev_hit hN223 rfl) ?_
          refine op_pick_f (ev_hit hN223 rfl) (ev_hit hN223 rfl) ?_
          refine reg_nil ?_
          refine hK241 _ _ ?_
          refine wp_cond_false (ev_hit hN223 rfl) ?_
          refine wp_skip ?_
          refine hK240 _ _ ?_
          refine seq_any fun K296 hK296 => ?_
          refine one_reg ?_
          refine op_move (ev_hit hN223 rfl) ?_
          refine op_eql (ev_hit hN223 rfl) rfl (fun c104 => ?_) (fun c104 => ?_)
          · -- 104T
           refine op_move (ev_hit hN223 rfl) ?_
           refine g_false (j := 2) (dj := 105) (b := false) rfl rfl rfl (ev_hit hN223 rfl) rfl rfl ?_
           refine g_false (j := 2) (dj := 105) (b := false) rfl rfl rfl (ev_hit hN223 rfl) rfl rfl ?_
           refine g_false (j := 2) (dj := 105) (b := false) rfl rfl rfl (ev_hit hN223 rfl) rfl rfl ?_
           refine g_false (j := 2) (dj := 105) (b := false) rfl rfl rfl (ev_hit hN223 rfl) rfl rfl ?_
           refine op_pick_t (ev_hit hN223 rfl) rfl ?_
           refine reg_nil ?_
           refine hK296 _ _ ?_
           refine wp_cond_true (ev_hit hN223 rfl) ?_
           refine seq_any fun K297 hK297 => ?_
           refine one_reg ?_
           have hLv := hAk.2.1.leave ht8 hIT
           refine op_move (ev_base hN223 rfl s223_8) ?_
           refine op_index_arr1 (j := (tix 8 (opN (L.getD i dOp)))) arr100 (ev_base hN223 rfl s223_4) (ev_hit hN223 rfl) (by omega) (by omega) ?_
           have hIN_old := hIN
           refine op_store_row (v := (Value.bool false)) size4 (ev_hit hN223 rfl) rfl rfl rfl hIN (by rw [List.length_map]; omega) ?_
           intro w298 hIN E299
           have z_w298 := E299.size
           have hr := hr.keep E299 (fun k hk => .inr (by simp at hk; omega))
           have hls : ∀ x9 ∈ (L.map opLab), RdC w298 0 w.heap.size 1 x9.1 x9.2.length (x9.2.map u16v) := fun x9 hx9 => (hls x9 hx9).keep E299 (fun k hk => .inr (by simp at hk; omega))
           have hrs : ∀ x9 ∈ (L.map opRds), RdC w298 0 w.heap.size 1 x9.1 x9.2.length (x9.2.map sv) := fun x9 hx9 => (hrs x9 hx9).keep E299 (fun k hk => .inr (by simp at hk; omega))
           have hST := hST.keep E299 (fun hh => hST.ne hIN_old (by decide) (Option.some.inj hh))
           have hLi := hLi.keep E299 (fun k hk => .inr (by simp at hk; omega))
           have hRi := hRi.keep E299 (fun k hk => .inr (by simp at hk; omega))
           have hB62 := hB62.keep E299 (fun hh => hB62.ne hIN_old (by decide) (Option.some.inj hh))
           have hl231 := hl231.keepG (Gr.of E299) (Dj.one dj237)
           have hb := below_step1 hb E299 hb.size (by omega)
           have hIN : Bx w298 b39 100 (((IN.set (tix 8 (opN (L.getD i dOp))) false).map Value.bool)) := row_set hIN
           refine reg_nil ?_
           refine hK297 _ _ ?_
           refine seq_any fun K300 hK300 => ?_
           refine one_reg ?_
           refine op_move (ev_base hN223 rfl s223_3) ?_
           refine op_move (ev_base hN223 rfl s223_8) ?_
           refine op_fn (vs := [(ptr k34 0), (Value.int .i64 (((tix 8 (opN (L.getD i dOp))) : Nat) : Int))]) ok57 ⟨(ev_hit hN223 rfl), ⟨(ev_hit hN223 rfl), trivial⟩⟩ (LeaveR (n := (((tix 8 (opN (L.getD i dOp))) : Nat) : Int)) (by omega) hl231) ?_
           rintro _ w302 ⟨E303, rfl, F301, hl301, hN301⟩
           have bd304 := hST.lt
           have bd305 := hB62.lt
           have bd306 := hIN.lt
           have hl231_old := hl231
           have z_w302 := E303.size
           have hr := hr.keepG E303 (fun k hk => .inr (by have := hl231_old.lt k hk; omega))
           have hls : ∀ x9 ∈ (L.map opLab), RdC w302 0 w.heap.size 1 x9.1 x9.2.length (x9.2.map u16v) := fun x9 hx9 => (hls x9 hx9).keepG E303 (fun k hk => .inr (by have := hl231_old.lt k hk; omega))
           have hrs : ∀ x9 ∈ (L.map opRds), RdC w302 0 w.heap.size 1 x9.1 x9.2.length (x9.2.map sv) := fun x9 hx9 => (hrs x9 hx9).keepG E303 (fun k hk => .inr (by have := hl231_old.lt k hk; omega))
           have hST := hST.keepG E303 dj238
           have hLi := hLi.keepG E303 (fun k hk => .inr (by have := hl231_old.lt k hk; omega))
           have hRi := hRi.keepG E303 (fun k hk => .inr (by have := hl231_old.lt k hk; omega))
           have hB62 := hB62.keepG E303 dj239
           have hIN := hIN.keepG E303 dj237
           have hb := below_stepG hb E303 hb.size (fun k hk => (hl231_old.lt k hk).1)
           have dj307 : ¬ F301 b45 := ne_stepF hN301 bd304 dj238
           have dj308 : ¬ F301 b60 := ne_stepF hN301 bd305 dj239
           have dj309 : ¬ F301 b39 := ne_stepF hN301 bd306 dj237
           refine op_neq (ev_hit hN223 rfl) rfl (fun c116 => ?_) (fun c116 => ?_)
           · -- 116T
            exact absurd hLv.1 c116
           · -- 116F
            refine reg_nil ?_
            refine hK300 _ _ ?_
            refine wp_cond_false (ev_hit hN223 rfl) ?_
            refine wp_skip ?_
            refine hK54 _ _ ?_
            refine one_reg ?_
            refine op_move (ev_base hN223 rfl s223_6) ?_
            refine op_add (ev_hit hN223 rfl) rfl (add64 (by omega)) ?_
            refine op_assign (ev_hit hN223 rfl) ?_
            refine reg_nil ?_
            -- round 18F 23T 31T 41F 56F 88F 90F 97T 100F 104T 116F
            exact loop_next _ hN223 hd223 ⟨(i + 1), mdel (askM M (((tix 8 (opN (L.getD i dOp))) : Nat) : Int) (opR (L.getD i dOp)) (opW (L.getD i dOp))) (((tix 8 (opN (L.getD i dOp))) : Nat) : Int), (IN.set (tix 8 (opN (L.getD i dOp))) false), ST, F301, rfl, (sl_base hN223 rfl s223_0), (sl_base hN223 rfl s223_3), (sl_base hN223 rfl s223_4), (sl_base hN223 rfl s223_5), (sl_hit hN223 rfl).trans (congrArg (Value.int .i64) (by omega)), (by omega), (hLv.2.mono (by omega)), dj309, dj307, hb, (by omega), hr, hls, hrs, hl301, hIN, hST⟩ (by omega)
          · -- 104F
           refine op_move (ev_hit hN223 rfl) ?_
           refine g_true (j := 2) (dj := 105) (b := false) rfl rfl rfl (ev_hit hN223 rfl) ?_
           refine op_field fld103_0 (ev_base hN223 rfl s223_7) ?_
           refine g_true (j := 2) (dj := 105) (b := false) rfl rfl rfl (ev_hit hN223 rfl) ?_
           refine op_load1 (v := (Value.int .i64 (opK (L.getD i dOp)))) one3 (ev_hit hN223 rfl) (hB62.cell rfl) ?_
           refine g_true (j := 2) (dj := 105) (b := false) rfl rfl rfl (ev_hit hN223 rfl) ?_
           refine op_rem (r := (Int.tmod (opK (L.getD i dOp)) 5)) (ev_hit hN223 rfl) rfl (by decide) rfl ?_
           refine g_true (j := 2) (dj := 105) (b := false) rfl rfl rfl (ev_hit hN223 rfl) ?_
           refine op_eql (ev_hit hN223 rfl) rfl (fun c109 => ?_) (fun c109 => ?_)
           · -- 109T
            refine op_pick_f (ev_hit hN223 rfl) (ev_hit hN223 rfl) ?_
            refine reg_nil ?_
            refine hK296 _ _ ?_
            refine wp_cond_true (ev_hit hN223 rfl) ?_
            refine seq_any fun K310 hK310 => ?_
            refine one_reg ?_
            have hLv := hAk.2.1.leave ht8 hIT
            refine op_move (ev_base hN223 rfl s223_8) ?_
            refine op_index_arr1 (j := (tix 8 (opN (L.getD i dOp)))) arr100 (ev_base hN223 rfl s223_4) (ev_hit hN223 rfl) (by omega) (by omega) ?_
            have hIN_old := hIN
            refine op_store_row (v := (Value.bool false)) size4 (ev_hit hN223 rfl) rfl rfl rfl hIN (by rw [List.length_map]; omega) ?_
            intro w311 hIN E312
            have z_w311 := E312.size
            have hr := hr.keep E312 (fun k hk => .inr (by simp at hk; omega))
            have hls : ∀ x9 ∈ (L.map opLab), RdC w311 0 w.heap.size 1 x9.1 x9.2.length (x9.2.map u16v) := fun x9 hx9 => (hls x9 hx9).keep E312 (fun k hk => .inr (by simp at hk; omega))
            have hrs : ∀ x9 ∈ (L.map opRds), RdC w311 0 w.heap.size 1 x9.1 x9.2.length (x9.2.map sv) := fun x9 hx9 => (hrs x9 hx9).keep E312 (fun k hk => .inr (by simp at hk; omega))
            have hST := hST.keep E312 (fun hh => hST.ne hIN_old (by decide) (Option.some.inj hh))
            have hLi := hLi.keep E312 (fun k hk => .inr (by simp at hk; omega))
            have hRi := hRi.keep E312 (fun k hk => .inr (by simp at hk; omega))
            have hB62 := hB62.keep E312 (fun hh => hB62.ne hIN_old (by decide) (Option.some.inj hh))
            have hl231 := hl231.keepG (Gr.of E312) (Dj.one dj237)
            have hb := below_step1 hb E312 hb.size (by omega)
            have hIN : Bx w311 b39 100 (((IN.set (tix 8 (opN (L.getD i dOp))) false).map Value.bool)) := row_set hIN
            refine reg_nil ?_
            refine hK310 _ _ ?_
            refine seq_any fun K313 hK313 => ?_
            refine one_reg ?_
            refine op_move (ev_base hN223 rfl s223_3) ?_
            refine op_move (ev_base hN223 rfl s223_8) ?_
            refine op_fn (vs := [(ptr k34 0), (Value.int .i64 (((tix 8 (opN (L.getD i dOp))) : Nat) : Int))]) ok57 ⟨(ev_hit hN223 rfl), ⟨(ev_hit hN223 rfl), trivial⟩⟩ (LeaveR (n := (((tix 8 (opN (L.getD i dOp))) : Nat) : Int)) (by omega) hl231) ?_
            rintro _ w315 ⟨E316, rfl, F314, hl314, hN314⟩
            have bd317 := hST.lt
            have bd318 := hB62.lt
            have bd319 := hIN.lt
            have hl231_old := hl231
            have z_w315 := E316.size
            have hr := hr.keepG E316 (fun k hk => .inr (by have := hl231_old.lt k hk; omega))
            have hls : ∀ x9 ∈ (L.map opLab), RdC w315 0 w.heap.size 1 x9.1 x9.2.length (x9.2.map u16v) := fun x9 hx9 => (hls x9 hx9).keepG E316 (fun k hk => .inr (by have := hl231_old.lt k hk; omega))
            have hrs : ∀ x9 ∈ (L.map opRds), RdC w315 0 w.heap.size 1 x9.1 x9.2.length (x9.2.map sv) := fun x9 hx9 => (hrs x9 hx9).keepG E316 (fun k hk => .inr (by have := hl231_old.lt k hk; omega))
            have hST := hST.keepG E316 dj238
            have hLi := hLi.keepG E316 (fun k hk => .inr (by have := hl231_old.lt k hk; omega))
            have hRi := hRi.keepG E316 (fun k hk => .inr (by have := hl231_old.lt k hk; omega))
            have hB62 := hB62.keepG E316 dj239
            have hIN := hIN.keepG E316 dj237
            have hb := below_stepG hb E316 hb.size (fun k hk => (hl231_old.lt k hk).1)
            have dj320 : ¬ F314 b45 := ne_stepF hN314 bd317 dj238
            have dj321 : ¬ F314 b60 := ne_stepF hN314 bd318 dj239
            have dj322 : ¬ F314 b39 := ne_stepF hN314 bd319 dj237
            refine op_neq (ev_hit hN223 rfl) rfl (fun c116 => ?_) (fun c116 => ?_)
            · -- 116T
             exact absurd hLv.1 c116
            · -- 116F
             refine reg_nil ?_
             refine hK313 _ _ ?_
             refine wp_cond_false (ev_hit hN223 rfl) ?_
             refine wp_skip ?_
             refine hK54 _ _ ?_
             refine one_reg ?_
             refine op_move (ev_base hN223 rfl s223_6) ?_
             refine op_add (ev_hit hN223 rfl) rfl (add64 (by omega)) ?_
             refine op_assign (ev_hit hN223 rfl) ?_
             refine reg_nil ?_
             -- round 18F 23T 31T 41F 56F 88F 90F 97T 100F 104F 109T 116F
             exact loop_next _ hN223 hd223 ⟨(i + 1), mdel (askM M (((tix 8 (opN (L.getD i dOp))) : Nat) : Int) (opR (L.getD i dOp)) (opW (L.getD i dOp))) (((tix 8 (opN (L.getD i dOp))) : Nat) : Int), (IN.set (tix 8 (opN (L.getD i dOp))) false), ST, F314, rfl, (sl_base hN223 rfl s223_0), (sl_base hN223 rfl s223_3), (sl_base hN223 rfl s223_4), (sl_base hN223 rfl s223_5), (sl_hit hN223 rfl).trans (congrArg (Value.int .i64) (by omega)), (by omega), (hLv.2.mono (by omega)), dj322, dj320, hb, (by omega), hr, hls, hrs, hl314, hIN, hST⟩ (by omega)
           · -- 109F
            refine op_pick_f (ev_hit hN223 rfl) (ev_hit hN223 rfl) ?_
            refine reg_nil ?_
            refine hK296 _ _ ?_
            refine wp_cond_false (ev_hit hN223 rfl) ?_
            refine wp_skip ?_
            refine hK54 _ _ ?_
            refine one_reg ?_
            refine op_move (ev_base hN223 rfl s223_6) ?_
            refine op_add (ev_hit hN223 rfl) rfl (add64 (by omega)) ?_
            refine op_assign (ev_hit hN223 rfl) ?_
            refine reg_nil ?_
            -- round 18F 23T 31T 41F 56F 88F 90F 97T 100F 104F 109F
            exact loop_next _ hN223 hd223 ⟨(i + 1), askM M (((tix 8 (opN (L.getD i dOp))) : Nat) : Int) (opR (L.getD i dOp)) (opW (L.getD i dOp)), IN, ST, F231, rfl, (sl_base hN223 rfl s223_0), (sl_base hN223 rfl s223_3), (sl_base hN223 rfl s223_4), (sl_base hN223 rfl s223_5), (sl_hit hN223 rfl).trans (congrArg (Value.int .i64) (by omega)), (by omega), (hAk.2.1.mono (by omega)), dj237, dj238, hb, (by omega), hr, hls, hrs, hl231, hIN, hST⟩ (by omega)
        · -- 97F
         try rw [c97]
         refine op_move ((ev_base hN223 rfl s223_10).trans (congrArg Value.bool c97)) ?_
         refine g_true (j := 9) (dj := 96) (b := false) rfl rfl rfl (ev_hit hN223 rfl) ?_
         refine op_move (ev_hit hN223 rfl) ?_
         refine g_false (j := 11) (dj := 98) (b := true) rfl rfl rfl (ev_hit hN223 rfl) rfl rfl ?_
         refine g_false (j := 11) (dj := 98) (b := true) rfl rfl rfl (ev_hit hN223 rfl) rfl rfl ?_
         refine g_true (j := 9) (dj := 96) (b := false) rfl rfl rfl (ev_hit hN223 rfl) ?_
         refine op_pick_f (ev_hit hN223 rfl) rfl ?_
         refine op_pick_f (ev_hit hN223 rfl) (ev_hit hN223 rfl) ?_
         refine reg_nil ?_
         refine hK241 _ _ ?_
         refine wp_cond_false (ev_hit hN223 rfl) ?_
         refine wp_skip ?_
         refine hK240 _ _ ?_
         refine seq_any fun K323 hK323 => ?_
         refine one_reg ?_
         refine op_move (ev_hit hN223 rfl) ?_
         refine op_eql (ev_hit hN223 rfl) rfl (fun c104 => ?_) (fun c104 => ?_)
         · -- 104T
          refine op_move (ev_hit hN223 rfl) ?_
          refine g_false (j := 2) (dj := 105) (b := false) rfl rfl rfl (ev_hit hN223 rfl) rfl rfl ?_
          refine g_false (j := 2) (dj := 105) (b := false) rfl rfl rfl (ev_hit hN223 rfl) rfl rfl ?_
          refine g_false (j := 2) (dj := 105) (b := false) rfl rfl rfl (ev_hit hN223 rfl) rfl rfl ?_
          refine g_false (j := 2) (dj := 105) (b := false) rfl rfl rfl (ev_hit hN223 rfl) rfl rfl ?_
          refine op_pick_t (ev_hit hN223 rfl) rfl ?_
          refine reg_nil ?_
          refine hK323 _ _ ?_
          refine wp_cond_true (ev_hit hN223 rfl) ?_
          refine seq_any fun K324 hK324 => ?_
          refine one_reg ?_
          have hLv := hAk.2.1.leave ht8 hIT
          refine op_move (ev_base hN223 rfl s223_8) ?_
          refine op_index_arr1 (j := (tix 8 (opN (L.getD i dOp)))) arr100 (ev_base hN223 rfl s223_4) (ev_hit hN223 rfl) (by omega) (by omega) ?_
          have hIN_old := hIN
          refine op_store_row (v := (Value.bool false)) size4 (ev_hit hN223 rfl) rfl rfl rfl hIN (by rw [List.length_map]; omega) ?_
          intro w325 hIN E326
          have z_w325 := E326.size
          have hr := hr.keep E326 (fun k hk => .inr (by simp at hk; omega))
          have hls : ∀ x9 ∈ (L.map opLab), RdC w325 0 w.heap.size 1 x9.1 x9.2.length (x9.2.map u16v) := fun x9 hx9 => (hls x9 hx9).keep E326 (fun k hk => .inr (by simp at hk; omega))
          have hrs : ∀ x9 ∈ (L.map opRds), RdC w325 0 w.heap.size 1 x9.1 x9.2.length (x9.2.map sv) := fun x9 hx9 => (hrs x9 hx9).keep E326 (fun k hk => .inr (by simp at hk; omega))
          have hST := hST.keep E326 (fun hh => hST.ne hIN_old (by decide) (Option.some.inj hh))
          have hLi := hLi.keep E326 (fun k hk => .inr (by simp at hk; omega))
          have hRi := hRi.keep E326 (fun k hk => .inr (by simp at hk; omega))
          have hB62 := hB62.keep E326 (fun hh => hB62.ne hIN_old (by decide) (Option.some.inj hh))
          have hl231 := hl231.keepG (Gr.of E326) (Dj.one dj237)
          have hb := below_step1 hb E326 hb.size (by omega)
          have hIN : Bx w325 b39 100 (((IN.set (tix 8 (opN (L.getD i dOp))) false).map Value.bool)) := row_set hIN
          refine reg_nil ?_
          refine hK324 _ _ ?_
          refine seq_any fun K327 hK327 => ?_
          refine one_reg ?_
          refine op_move (ev_base hN223 rfl s223_3) ?_
          refine op_move (ev_base hN223 rfl s223_8) ?_
          refine op_fn (vs := [(ptr k34 0), (Value.int .i64 (((tix 8 (opN (L.getD i dOp))) : Nat) : Int))]) ok57 ⟨(ev_hit hN223 rfl), ⟨(ev_hit hN223 rfl), trivial⟩⟩ (LeaveR (n := (((tix 8 (opN (L.getD i dOp))) : Nat) : Int)) (by omega) hl231) ?_
          rintro _ w329 ⟨E330, rfl, F328, hl328, hN328⟩
          have bd331 := hST.lt
          have bd332 := hB62.lt
          have bd333 := hIN.lt
          have hl231_old := hl231
          have z_w329 := E330.size
          have hr := hr.keepG E330 (fun k hk => .inr (by have := hl231_old.lt k hk; omega))
          have hls : ∀ x9 ∈ (L.map opLab), RdC w329 0 w.heap.size 1 x9.1 x9.2.length (x9.2.map u16v) := fun x9 hx9 => (hls x9 hx9).keepG E330 (fun k hk => .inr (by have := hl231_old.lt k hk; omega))
          have hrs : ∀ x9 ∈ (L.map opRds), RdC w329 0 w.heap.size 1 x9.1 x9.2.length (x9.2.map sv) := fun x9 hx9 => (hrs x9 hx9).keepG E330 (fun k hk => .inr (by have := hl231_old.lt k hk; omega))
          have hST := hST.keepG E330 dj238
          have hLi := hLi.keepG E330 (fun k hk => .inr (by have := hl231_old.lt k hk; omega))
          have hRi := hRi.keepG E330 (fun k hk => .inr (by have := hl231_old.lt k hk; omega))
          have hB62 := hB62.keepG E330 dj239
          have hIN := hIN.keepG E330 dj237
          have hb := below_stepG hb E330 hb.size (fun k hk => (hl231_old.lt k hk).1)
          have dj334 : ¬ F328 b45 := ne_stepF hN328 bd331 dj238
          have dj335 : ¬ F328 b60 := ne_stepF hN328 bd332 dj239
          have dj336 : ¬ F328 b39 := ne_stepF hN328 bd333 dj237
          refine op_neq (ev_hit hN223 rfl) rfl (fun c116 => ?_) (fun c116 => ?_)
          · -- 116T
           exact absurd hLv.1 c116
          · -- 116F
           refine reg_nil ?_
           refine hK327 _ _ ?_
           refine wp_cond_false (ev_hit hN223 rfl) ?_
           refine wp_skip ?_
           refine hK54 _ _ ?_
           refine one_reg ?_
           refine op_move (ev_base hN223 rfl s223_6) ?_
           refine op_add (ev_hit hN223 rfl) rfl (add64 (by omega)) ?_
           refine op_assign (ev_hit hN223 rfl) ?_
           refine reg_nil ?_
           -- round 18F 23T 31T 41F 56F 88F 90F 97F 104T 116F
           exact loop_next _ hN223 hd223 ⟨(i + 1), mdel (askM M (((tix 8 (opN (L.getD i dOp))) : Nat) : Int) (opR (L.getD i dOp)) (opW (L.getD i dOp))) (((tix 8 (opN (L.getD i dOp))) : Nat) : Int), (IN.set (tix 8 (opN (L.getD i dOp))) false), ST, F328, rfl, (sl_base hN223 rfl s223_0), (sl_base hN223 rfl s223_3), (sl_base hN223 rfl s223_4), (sl_base hN223 rfl s223_5), (sl_hit hN223 rfl).trans (congrArg (Value.int .i64) (by omega)), (by omega), (hLv.2.mono (by omega)), dj336, dj334, hb, (by omega), hr, hls, hrs, hl328, hIN, hST⟩ (by omega)
         · -- 104F
          refine op_move (ev_hit hN223 rfl) ?_
          refine g_true (j := 2) (dj := 105) (b := false) rfl rfl rfl (ev_hit hN223 rfl) ?_
          refine op_field fld103_0 (ev_base hN223 rfl s223_7) ?_
          refine g_true (j := 2) (dj := 105) (b := false) rfl rfl rfl (ev_hit hN223 rfl) ?_
          refine op_load1 (v := (Value.int .i64 (opK (L.getD i dOp)))) one3 (ev_hit hN223 rfl) (hB62.cell rfl) ?_
          refine g_true (j := 2) (dj := 105) (b := false) rfl rfl rfl (ev_hit hN223 rfl) ?_
          refine op_rem (r := (Int.tmod (opK (L.getD i dOp)) 5)) (ev_hit hN223 rfl) rfl (by decide) rfl ?_
          refine g_true (j := 2) (dj := 105) (b := false) rfl rfl rfl (ev_hit hN223 rfl) ?_
          refine op_eql (ev_hit hN223 rfl) rfl (fun c109 => ?_) (fun c109 => ?_)
          · -- 109T
           refine op_pick_f (ev_hit hN223 rfl) (ev_hit hN223 rfl) ?_
           refine reg_nil ?_
           refine hK323 _ _ ?_
           refine wp_cond_true (ev_hit hN223 rfl) ?_
           refine seq_any fun K337 hK337 => ?_
           refine one_reg ?_
           have hLv := hAk.2.1.leave ht8 hIT
           refine op_move (ev_base hN223 rfl s223_8) ?_
           refine op_index_arr1 (j := (tix 8 (opN (L.getD i dOp)))) arr100 (ev_base hN223 rfl s223_4) (ev_hit hN223 rfl) (by omega) (by omega) ?_
           have hIN_old := hIN
           refine op_store_row (v := (Value.bool false)) size4 (ev_hit hN223 rfl) rfl rfl rfl hIN (by rw [List.length_map]; omega) ?_
           intro w338 hIN E339
           have z_w338 := E339.size
           have hr := hr.keep E339 (fun k hk => .inr (by simp at hk; omega))
           have hls : ∀ x9 ∈ (L.map opLab), RdC w338 0 w.heap.size 1 x9.1 x9.2.length (x9.2.map u16v) := fun x9 hx9 => (hls x9 hx9).keep E339 (fun k hk => .inr (by simp at hk; omega))
           have hrs : ∀ x9 ∈ (L.map opRds), RdC w338 0 w.heap.size 1 x9.1 x9.2.length (x9.2.map sv) := fun x9 hx9 => (hrs x9 hx9).keep E339 (fun k hk => .inr (by simp at hk; omega))
           have hST := hST.keep E339 (fun hh => hST.ne hIN_old (by decide) (Option.some.inj hh))
           have hLi := hLi.keep E339 (fun k hk => .inr (by simp at hk; omega))
           have hRi := hRi.keep E339 (fun k hk => .inr (by simp at hk; omega))
           have hB62 := hB62.keep E339 (fun hh => hB62.ne hIN_old (by decide) (Option.some.inj hh))
           have hl231 := hl231.keepG (Gr.of E339) (Dj.one dj237)
           have hb := below_step1 hb E339 hb.size (by omega)
           have hIN : Bx w338 b39 100 (((IN.set (tix 8 (opN (L.getD i dOp))) false).map Value.bool)) := row_set hIN
           refine reg_nil ?_
           refine hK337 _ _ ?_
           refine seq_any fun K340 hK340 => ?_
           refine one_reg ?_
           refine op_move (ev_base hN223 rfl s223_3) ?_
           refine op_move (ev_base hN223 rfl s223_8) ?_
           refine op_fn (vs := [(ptr k34 0), (Value.int .i64 (((tix 8 (opN (L.getD i dOp))) : Nat) : Int))]) ok57 ⟨(ev_hit hN223 rfl), ⟨(ev_hit hN223 rfl), trivial⟩⟩ (LeaveR (n := (((tix 8 (opN (L.getD i dOp))) : Nat) : Int)) (by omega) hl231) ?_
           rintro _ w342 ⟨E343, rfl, F341, hl341, hN341⟩
           have bd344 := hST.lt
           have bd345 := hB62.lt
           have bd346 := hIN.lt
           have hl231_old := hl231
           have z_w342 := E343.size
           have hr := hr.keepG E343 (fun k hk => .inr (by have := hl231_old.lt k hk; omega))
           have hls : ∀ x9 ∈ (L.map opLab), RdC w342 0 w.heap.size 1 x9.1 x9.2.length (x9.2.map u16v) := fun x9 hx9 => (hls x9 hx9).keepG E343 (fun k hk => .inr (by have := hl231_old.lt k hk; omega))
           have hrs : ∀ x9 ∈ (L.map opRds), RdC w342 0 w.heap.size 1 x9.1 x9.2.length (x9.2.map sv) := fun x9 hx9 => (hrs x9 hx9).keepG E343 (fun k hk => .inr (by have := hl231_old.lt k hk; omega))
           have hST := hST.keepG E343 dj238
           have hLi := hLi.keepG E343 (fun k hk => .inr (by have := hl231_old.lt k hk; omega))
           have hRi := hRi.keepG E343 (fun k hk => .inr (by have := hl231_old.lt k hk; omega))
           have hB62 := hB62.keepG E343 dj239
           have hIN := hIN.keepG E343 dj237
           have hb := below_stepG hb E343 hb.size (fun k hk => (hl231_old.lt k hk).1)
           have dj347 : ¬ F341 b45 := ne_stepF hN341 bd344 dj238
           have dj348 : ¬ F341 b60 := ne_stepF hN341 bd345 dj239
           have dj349 : ¬ F341 b39 := ne_stepF hN341 bd346 dj237
           refine op_neq (ev_hit hN223 rfl) rfl (fun c116 => ?_) (fun c116 => ?_)
           · -- 116T
            exact absurd hLv.1 c116
           · -- 116F
            refine reg_nil ?_
            refine hK340 _ _ ?_
            refine wp_cond_false (ev_hit hN223 rfl) ?_
            refine wp_skip ?_
            refine hK54 _ _ ?_
            refine one_reg ?_
            refine op_move (ev_base hN223 rfl s223_6) ?_
            refine op_add (ev_hit hN223 rfl) rfl (add64 (by omega)) ?_
            refine op_assign (ev_hit hN223 rfl) ?_
            refine reg_nil ?_
            -- round 18F 23T 31T 41F 56F 88F 90F 97F 104F 109T 116F
            exact loop_next _ hN223 hd223 ⟨(i + 1), mdel (askM M (((tix 8 (opN (L.getD i dOp))) : Nat) : Int) (opR (L.getD i dOp)) (opW (L.getD i dOp))) (((tix 8 (opN (L.getD i dOp))) : Nat) : Int), (IN.set (tix 8 (opN (L.getD i dOp))) false), ST, F341, rfl, (sl_base hN223 rfl s223_0), (sl_base hN223 rfl s223_3), (sl_base hN223 rfl s223_4), (sl_base hN223 rfl s223_5), (sl_hit hN223 rfl).trans (congrArg (Value.int .i64) (by omega)), (by omega), (hLv.2.mono (by omega)), dj349, dj347, hb, (by omega), hr, hls, hrs, hl341, hIN, hST⟩ (by omega)
          · -- 109F
           refine op_pick_f (ev_hit hN223 rfl) (ev_hit hN223 rfl) ?_
           refine reg_nil ?_
           refine hK323 _ _ ?_
           refine wp_cond_false (ev_hit hN223 rfl) ?_
           refine wp_skip ?_
           refine hK54 _ _ ?_
           refine one_reg ?_
           refine op_move (ev_base hN223 rfl s223_6) ?_
           refine op_add (ev_hit hN223 rfl) rfl (add64 (by omega)) ?_
           refine op_assign (ev_hit hN223 rfl) ?_
           refine reg_nil ?_
           -- round 18F 23T 31T 41F 56F 88F 90F 97F 104F 109F
           exact loop_next _ hN223 hd223 ⟨(i + 1), askM M (((tix 8 (opN (L.getD i dOp))) : Nat) : Int) (opR (L.getD i dOp)) (opW (L.getD i dOp)), IN, ST, F231, rfl, (sl_base hN223 rfl s223_0), (sl_base hN223 rfl s223_3), (sl_base hN223 rfl s223_4), (sl_base hN223 rfl s223_5), (sl_hit hN223 rfl).trans (congrArg (Value.int .i64) (by omega)), (by omega), (hAk.2.1.mono (by omega)), dj237, dj238, hb, (by omega), hr, hls, hrs, hl231, hIN, hST⟩ (by omega)
   · -- 31F
    rw [c31]
    refine op_not (ev_hit hN51 rfl) ?_
    refine reg_nil ?_
    refine hK69 _ _ ?_
    refine wp_cond_true (ev_hit hN51 rfl) ?_
    refine seq_any fun K350 hK350 => ?_
    refine one_reg ?_
    refine op_assign rfl ?_
    refine reg_nil ?_
    refine hK350 _ _ ?_
    refine wp_ret (then_ret (blk_ret (then_ret (then_ret (blk_ret (then_ret ( ?_)))))))
    refine ret1 rfl hd51 (ev_hit hN51 rfl) ⟨_, rfl, ?_⟩
    -- path 18F 23T 31F
    exact ⟨hb, rfl⟩
  · -- 23F
   refine reg_nil ?_
   refine hK53 _ _ ?_
   refine wp_cond_false (ev_hit hN51 rfl) ?_
   refine wp_exit (then_exit (then_exit (blk_hit ?_)))
   refine hK49 _ _ ?_
   refine seq_any fun K351 hK351 => ?_
   refine one_reg ?_
   refine op_assign rfl ?_
   refine reg_nil ?_
   refine hK351 _ _ ?_
   refine wp_ret ?_
   refine ret1 rfl hd51 (ev_hit hN51 rfl) ⟨_, rfl, ?_⟩
   -- path 18F 23F
   exact ⟨hb, rfl⟩

end Go.Proofs.Ytmhdbphpmgjpcaa

/- What the arguments of the laws are, told by their types. -/
namespace Go.Proofs.Ytmhdbphpmgjpcaa
open Go.Gx Go.RowKit
theorem rd_le {w : World} {L B sz n : Nat} {v : Value} {cs : List Value} (h : RdC w L B sz v n cs) : n ≤ 9223372036854775807 := by obtain ⟨_, _, _, _, hq, hm, _⟩ := h; exact Nat.le_trans hq hm
theorem cells46 : Try.prog.cellsOf 46 = 1 := by kernel_rfl
theorem flat_u16v (l : List UInt16) : l.flatMap (fun c => [u16v c]) = l.map u16v := by induction l with | nil => rfl | cons c l ih => simp [ih]
theorem dec54 {H : Type} {enc : TypeId × Value → H} {w : World} {base : Nat} {spare : Nat → Bool} {held : Bool} : Dec enc Try.prog w base spare held 54 (fun p : Value × List UInt16 => [p.1]) (fun p => RdC w 0 w.heap.size 1 p.1 p.2.length (p.2.map u16v)) :=
  (Dec.slice Try.underlying54 (by rw [cells46]; decide) (Dec.u16 Try.underlying46) (fun _ _ => by rw [cells46]; rfl)).map fun p hp => ⟨p, rfl, by have hq := hp.1; rwa [cells46, flat_u16v] at hq⟩
theorem cells54 : Try.prog.cellsOf 54 = 1 := by kernel_rfl
theorem cells3 : Try.prog.cellsOf 3 = 1 := by kernel_rfl
theorem cells9 : Try.prog.cellsOf 9 = 1 := by kernel_rfl
theorem dec26 {H : Type} {enc : TypeId × Value → H} {w : World} {base : Nat} {spare : Nat → Bool} {held : Bool} : Dec enc Try.prog w base spare held 26 (fun p : Value × List (List UInt8) => [p.1]) (fun p => RdC w 0 w.heap.size 1 p.1 p.2.length (p.2.flatMap (fun s => [.string (bs s)])) ∧ ∀ x ∈ p.2, x.length ≤ maxLen) :=
  (Dec.slice Try.underlying26 (by rw [cells9]; decide) (Dec.str Try.underlying9) (fun _ _ => by rw [cells9]; rfl)).map fun p hp => ⟨p, rfl, by have hq := hp.1; rw [cells9] at hq; exact hq, hp.2⟩
theorem cells103 : Try.prog.cellsOf 103 = 6 := by kernel_rfl
theorem cells61 : Try.prog.cellsOf 61 = 1 := by kernel_rfl
theorem cells26 : Try.prog.cellsOf 26 = 1 := by kernel_rfl
theorem len_6 {l : List Value} (h : l.length = 6) : ∃ c0 c1 c2 c3 c4 c5, l = [c0, c1, c2, c3, c4, c5] := by match l, h with | [c0, c1, c2, c3, c4, c5], _ => exact ⟨c0, c1, c2, c3, c4, c5, rfl⟩
theorem dec103 {H : Type} {enc : TypeId × Value → H} {w : World} {base : Nat} {spare : Nat → Bool} {held : Bool} : Dec enc Try.prog w base spare held 103 (fun p : (Int) × (Int) × (Value × List UInt16) × (UInt64) × (Value × List (List UInt8)) × (List UInt8) => [.int .i64 p.1, .int .i64 p.2.1, p.2.2.1.1, .int .u64 (p.2.2.2.1.toNat : Int), p.2.2.2.2.1.1, .string (bs p.2.2.2.2.2)]) (fun p => (Lit.int .i64 p.1).wf = true ∧ (Lit.int .i64 p.2.1).wf = true ∧ (RdC w 0 w.heap.size 1 p.2.2.1.1 p.2.2.1.2.length (p.2.2.1.2.map u16v)) ∧ (RdC w 0 w.heap.size 1 p.2.2.2.2.1.1 p.2.2.2.2.1.2.length (p.2.2.2.2.1.2.flatMap (fun s => [.string (bs s)])) ∧ ∀ z26 ∈ p.2.2.2.2.1.2, z26.length ≤ maxLen) ∧ p.2.2.2.2.2.length ≤ maxLen) := by
  intro fuel cs x h
  obtain ⟨xs, n, _, _, hl, hlen, hf⟩ := DataW.trod_struct Try.underlying103 h
  rw [cells103] at hl
  obtain ⟨c0, c1, c2, c3, c4, c5, rfl⟩ := len_6 hl
  have hl4 : xs.length = 6 := hlen
  have g0 : DataW.trod enc Try.prog w base spare held n 3 (([c0, c1, c2, c3, c4, c5].drop 0).take (Try.prog.cellsOf 3)) = some xs[0] := (hf 0 _ rfl).trans (List.getElem?_eq_getElem (by omega))
  have g1 : DataW.trod enc Try.prog w base spare held n 3 (([c0, c1, c2, c3, c4, c5].drop 1).take (Try.prog.cellsOf 3)) = some xs[1] := (hf 1 _ rfl).trans (List.getElem?_eq_getElem (by omega))
  have g2 : DataW.trod enc Try.prog w base spare held n 54 (([c0, c1, c2, c3, c4, c5].drop 2).take (Try.prog.cellsOf 54)) = some xs[2] := (hf 2 _ rfl).trans (List.getElem?_eq_getElem (by omega))
  have g3 : DataW.trod enc Try.prog w base spare held n 61 (([c0, c1, c2, c3, c4, c5].drop 3).take (Try.prog.cellsOf 61)) = some xs[3] := (hf 3 _ rfl).trans (List.getElem?_eq_getElem (by omega))
  have g4 : DataW.trod enc Try.prog w base spare held n 26 (([c0, c1, c2, c3, c4, c5].drop 4).take (Try.prog.cellsOf 26)) = some xs[4] := (hf 4 _ rfl).trans (List.getElem?_eq_getElem (by omega))
  have g5 : DataW.trod enc Try.prog w base spare held n 9 (([c0, c1, c2, c3, c4, c5].drop 5).take (Try.prog.cellsOf 9)) = some xs[5] := (hf 5 _ rfl).trans (List.getElem?_eq_getElem (by omega))
  obtain ⟨b0, e0, w0⟩ := (Dec.int Try.underlying3) _ _ _ g0
  obtain ⟨b1, e1, w1⟩ := (Dec.int Try.underlying3) _ _ _ g1
  obtain ⟨b2, e2, w2⟩ := dec54 _ _ _ g2
  obtain ⟨b3, e3, w3⟩ := (Dec.u64 Try.underlying61) _ _ _ g3
  obtain ⟨b4, e4, w4⟩ := dec26 _ _ _ g4
  obtain ⟨b5, e5, w5⟩ := (Dec.str Try.underlying9) _ _ _ g5
  simp only [cells3, cells54, cells61, cells26, cells9, List.drop_zero, List.drop_succ_cons, List.take_succ_cons, List.take_zero, List.cons.injEq, and_true] at e0 e1 e2 e3 e4 e5
  clear hf h g0 g1 g2 g3 g4 g5
  obtain rfl := e0
  obtain rfl := e1
  obtain rfl := e2
  obtain rfl := e3
  obtain rfl := e4
  obtain rfl := e5
  exact ⟨⟨b0, b1, b2, b3, b4, b5⟩, rfl, ⟨w0, w1, w2, w4, w5⟩⟩
theorem dec99 {H : Type} {enc : TypeId × Value → H} {w : World} {base : Nat} {spare : Nat → Bool} {held : Bool} : Dec enc Try.prog w base spare held 99 (fun p : Value × List ((Int) × (Int) × (Value × List UInt16) × (UInt64) × (Value × List (List UInt8)) × (List UInt8)) => [p.1]) (fun p => RdC w 0 w.heap.size 6 p.1 p.2.length (p.2.flatMap (fun (x9 : (Int) × (Int) × (Value × List UInt16) × (UInt64) × (Value × List (List UInt8)) × (List UInt8)) => [.int .i64 x9.1, .int .i64 x9.2.1, x9.2.2.1.1, .int .u64 (x9.2.2.2.1.toNat : Int), x9.2.2.2.2.1.1, .string (bs x9.2.2.2.2.2)])) ∧ ∀ x ∈ p.2, ((Lit.int .i64 x.1).wf = true ∧ (Lit.int .i64 x.2.1).wf = true ∧ (RdC w 0 w.heap.size 1 x.2.2.1.1 x.2.2.1.2.length (x.2.2.1.2.map u16v)) ∧ (RdC w 0 w.heap.size 1 x.2.2.2.2.1.1 x.2.2.2.2.1.2.length (x.2.2.2.2.1.2.flatMap (fun s => [.string (bs s)])) ∧ ∀ z26 ∈ x.2.2.2.2.1.2, z26.length ≤ maxLen) ∧ x.2.2.2.2.2.length ≤ maxLen)) :=
  (Dec.slice Try.underlying99 (by rw [cells103]; decide) dec103 (fun _ _ => by rw [cells103]; rfl)).map fun p hp => ⟨p, rfl, by have hq := hp.1; rw [cells103] at hq; exact hq, hp.2⟩
end Go.Proofs.Ytmhdbphpmgjpcaa
