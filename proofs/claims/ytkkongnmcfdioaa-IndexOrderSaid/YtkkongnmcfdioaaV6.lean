/- Walks, written by a program: what each function of the translation hands back. -/
import Derived.Test.YtkkongnmcfdioaaV5
namespace Go.Proofs.Ytkkongnmcfdioaa
open Go.Gx Go.RowKit
attribute [local irreducible] wpList Code.wp Calls

theorem MayValue_ret (x : Vl) (w : World) (hs : x.s.length ≤ 9223372036854775807) : Ret Try.prog 32 #[(Value.agg #[(Value.int .i64 x.k), (Value.int .i64 x.n), (Value.string (bs x.s))])] w (fun v' w' => Below w.heap.size w w' ∧ v' = .bool (mayV x)) := by
  have hb := Below.refl w.heap.size w
  refine enter (N := 43) Try.func32 rfl rfl (by simp) fun a0 hN hd hA => ?_
  have s0 : a0.tmps.getD 0 undef = (Value.agg #[(Value.int .i64 x.k), (Value.int .i64 x.n), (Value.string (bs x.s))]) := hA 0 (by simp)
  clear hA
  refine seq_any fun K587 hK587 => ?_
  refine one_reg ?_
  refine op_box (cs := [(Value.int .i64 x.k), (Value.int .i64 x.n), (Value.string (bs x.s))]) (ev_base hN rfl s0) rfl ?_
  intro w588 b589 lo_b589 hi_b589 hB591 E590
  have z_w588 := E590.size
  have hb := below_step0 hb E590 hb.size
  refine op_assign rfl ?_
  refine reg_nil ?_
  refine hK587 _ _ ?_
  refine seq_any fun K592 hK592 => ?_
  refine seq_any fun K593 hK593 => ?_
  refine one_reg ?_
  refine op_field fld50_0 (ev_hit hN rfl) ?_
  refine op_load1 (v := (Value.int .i64 x.k)) one3 (ev_hit hN rfl) (hB591.cell rfl) ?_
  refine op_eql (ev_hit hN rfl) rfl (fun c6 => ?_) (fun c6 => ?_)
  · -- 6 True
    refine reg_nil ?_
    refine hK593 _ _ ?_
    refine wp_cond_true (ev_hit hN rfl) ?_
    refine seq_any fun K594 hK594 => ?_
    refine one_reg ?_
    refine op_field fld50_2 (ev_hit hN rfl) ?_
    refine op_load1 (v := (Value.string (bs x.s))) one9 (ev_hit hN rfl) (hB591.cell rfl) ?_
    refine op_seql (ev_hit hN rfl) rfl (fun c9 => ?_) (fun c9 => ?_)
    · -- 9 True
      refine op_assign (ev_hit hN rfl) ?_
      refine reg_nil ?_
      refine hK594 _ _ ?_
      refine wp_ret (then_ret ( ?_))
      refine ret1 rfl hd (ev_hit hN rfl) ⟨_, rfl, ?_⟩
      -- path 6T 9T
      exact ⟨hb, congrArg Value.bool (by simp [mayV, *])⟩
    · -- 9 False
      refine op_assign (ev_hit hN rfl) ?_
      refine reg_nil ?_
      refine hK594 _ _ ?_
      refine wp_ret (then_ret ( ?_))
      refine ret1 rfl hd (ev_hit hN rfl) ⟨_, rfl, ?_⟩
      -- path 6T 9F
      exact ⟨hb, congrArg Value.bool (by simp [mayV, *])⟩
  · -- 6 False
    refine reg_nil ?_
    refine hK593 _ _ ?_
    refine wp_cond_false (ev_hit hN rfl) ?_
    refine wp_skip ?_
    refine hK592 _ _ ?_
    refine seq_any fun K595 hK595 => ?_
    refine seq_any fun K596 hK596 => ?_
    refine one_reg ?_
    refine op_field fld50_0 (ev_hit hN rfl) ?_
    refine op_load1 (v := (Value.int .i64 x.k)) one3 (ev_hit hN rfl) (hB591.cell rfl) ?_
    refine op_neq (ev_hit hN rfl) rfl (fun c12 => ?_) (fun c12 => ?_)
    · -- 12 True
      refine op_move (ev_hit hN rfl) ?_
      refine g_false (j := 3) (dj := 13) (b := false) rfl rfl rfl (ev_hit hN rfl) rfl rfl ?_
      refine g_false (j := 3) (dj := 13) (b := false) rfl rfl rfl (ev_hit hN rfl) rfl rfl ?_
      refine g_false (j := 3) (dj := 13) (b := false) rfl rfl rfl (ev_hit hN rfl) rfl rfl ?_
      refine op_pick_t (ev_hit hN rfl) rfl ?_
      refine op_move (ev_hit hN rfl) ?_
      refine g_false (j := 8) (dj := 18) (b := false) rfl rfl rfl (ev_hit hN rfl) rfl rfl ?_
      refine g_false (j := 8) (dj := 18) (b := false) rfl rfl rfl (ev_hit hN rfl) rfl rfl ?_
      refine g_false (j := 8) (dj := 18) (b := false) rfl rfl rfl (ev_hit hN rfl) rfl rfl ?_
      refine g_false (j := 8) (dj := 18) (b := false) rfl rfl rfl (ev_hit hN rfl) rfl rfl ?_
      refine op_pick_t (ev_hit hN rfl) rfl ?_
      refine reg_nil ?_
      refine hK596 _ _ ?_
      refine wp_cond_true (ev_hit hN rfl) ?_
      refine seq_any fun K597 hK597 => ?_
      refine one_reg ?_
      refine op_assign rfl ?_
      refine reg_nil ?_
      refine hK597 _ _ ?_
      refine wp_ret (then_ret ( ?_))
      refine ret1 rfl hd (ev_hit hN rfl) ⟨_, rfl, ?_⟩
      -- path 6F 12T
      exact ⟨hb, congrArg Value.bool (by rw [mayV, if_neg c6]; simp; omega)⟩
    · -- 12 False
      refine op_move (ev_hit hN rfl) ?_
      refine g_true (j := 3) (dj := 13) (b := false) rfl rfl rfl (ev_hit hN rfl) ?_
      refine op_field fld50_1 (ev_hit hN rfl) ?_
      refine g_true (j := 3) (dj := 13) (b := false) rfl rfl rfl (ev_hit hN rfl) ?_
      refine op_load1 (v := (Value.int .i64 x.n)) one2 (ev_hit hN rfl) (hB591.cell rfl) ?_
      refine g_true (j := 3) (dj := 13) (b := false) rfl rfl rfl (ev_hit hN rfl) ?_
      refine op_neq (ev_hit hN rfl) rfl (fun c16 => ?_) (fun c16 => ?_)
      · -- 16 True
        refine op_pick_f (ev_hit hN rfl) (ev_hit hN rfl) ?_
        refine op_move (ev_hit hN rfl) ?_
        refine g_false (j := 8) (dj := 18) (b := false) rfl rfl rfl (ev_hit hN rfl) rfl rfl ?_
        refine g_false (j := 8) (dj := 18) (b := false) rfl rfl rfl (ev_hit hN rfl) rfl rfl ?_
        refine g_false (j := 8) (dj := 18) (b := false) rfl rfl rfl (ev_hit hN rfl) rfl rfl ?_
        refine g_false (j := 8) (dj := 18) (b := false) rfl rfl rfl (ev_hit hN rfl) rfl rfl ?_
        refine op_pick_t (ev_hit hN rfl) rfl ?_
        refine reg_nil ?_
        refine hK596 _ _ ?_
        refine wp_cond_true (ev_hit hN rfl) ?_
        refine seq_any fun K598 hK598 => ?_
        refine one_reg ?_
        refine op_assign rfl ?_
        refine reg_nil ?_
        refine hK598 _ _ ?_
        refine wp_ret (then_ret ( ?_))
        refine ret1 rfl hd (ev_hit hN rfl) ⟨_, rfl, ?_⟩
        -- path 6F 12F 16T
        exact ⟨hb, congrArg Value.bool (by rw [mayV, if_neg c6]; simp; omega)⟩
      · -- 16 False
        refine op_pick_f (ev_hit hN rfl) (ev_hit hN rfl) ?_
        refine op_move (ev_hit hN rfl) ?_
        refine g_true (j := 8) (dj := 18) (b := false) rfl rfl rfl (ev_hit hN rfl) ?_
        refine op_field fld50_2 (ev_hit hN rfl) ?_
        refine g_true (j := 8) (dj := 18) (b := false) rfl rfl rfl (ev_hit hN rfl) ?_
        refine op_load1 (v := (Value.string (bs x.s))) one9 (ev_hit hN rfl) (hB591.cell rfl) ?_
        refine g_true (j := 8) (dj := 18) (b := false) rfl rfl rfl (ev_hit hN rfl) ?_
        refine op_len_str Try.underlying9 (ev_hit hN rfl) ?_
        refine g_true (j := 8) (dj := 18) (b := false) rfl rfl rfl (ev_hit hN rfl) ?_
        refine op_gtr (ev_hit hN rfl) rfl (fun c22 => ?_) (fun c22 => ?_)
        · -- 22 True
          refine op_pick_f (ev_hit hN rfl) (ev_hit hN rfl) ?_
          refine reg_nil ?_
          refine hK596 _ _ ?_
          refine wp_cond_true (ev_hit hN rfl) ?_
          refine seq_any fun K599 hK599 => ?_
          refine one_reg ?_
          refine op_assign rfl ?_
          refine reg_nil ?_
          refine hK599 _ _ ?_
          refine wp_ret (then_ret ( ?_))
          refine ret1 rfl hd (ev_hit hN rfl) ⟨_, rfl, ?_⟩
          -- path 6F 12F 16F 22T
          exact ⟨hb, congrArg Value.bool (by rw [mayV, if_neg c6]; simp; omega)⟩
        · -- 22 False
          refine op_pick_f (ev_hit hN rfl) (ev_hit hN rfl) ?_
          refine reg_nil ?_
          refine hK596 _ _ ?_
          refine wp_cond_false (ev_hit hN rfl) ?_
          refine wp_skip ?_
          refine hK595 _ _ ?_
          refine seq_any fun K600 hK600 => ?_
          refine seq_any fun K601 hK601 => ?_
          refine one_reg ?_
          refine op_assign rfl ?_
          refine reg_nil ?_
          refine hK601 _ _ ?_
          refine wp_block ?_
          refine loop_m (fun m a w' => ∃ (i : Nat), m = x.s.length - i ∧ (a.tmps.getD 0 undef = (Value.agg #[(Value.int .i64 x.k), (Value.int .i64 x.n), (Value.string (bs x.s))])) ∧ (a.tmps.getD 1 undef = (ptr b589 0)) ∧ (a.tmps.getD 4 undef = (ptr b589 0)) ∧ (a.tmps.getD 5 undef = (Value.int .i64 x.k)) ∧ (a.tmps.getD 6 undef = (Value.bool false)) ∧ (a.tmps.getD 10 undef = (ptr b589 0)) ∧ (a.tmps.getD 11 undef = (Value.int .i64 x.k)) ∧ (a.tmps.getD 12 undef = (Value.bool false)) ∧ (a.tmps.getD 13 undef = (Value.bool false)) ∧ (a.tmps.getD 14 undef = (ptr b589 1)) ∧ (a.tmps.getD 15 undef = (Value.int .i64 x.n)) ∧ (a.tmps.getD 16 undef = (Value.bool false)) ∧ (a.tmps.getD 17 undef = (Value.bool false)) ∧ (a.tmps.getD 18 undef = (Value.bool false)) ∧ (a.tmps.getD 19 undef = (ptr b589 2)) ∧ (a.tmps.getD 20 undef = (Value.string (bs x.s))) ∧ (a.tmps.getD 21 undef = (Value.int .i64 (x.s.length : Int))) ∧ (a.tmps.getD 22 undef = (Value.bool false)) ∧ (a.tmps.getD 23 undef = (Value.bool false)) ∧ (a.tmps.getD 3 undef = (Value.int .i64 ((i : Nat) : Int))) ∧ (i ≤ x.s.length) ∧ ((x.s.take i).all okB = true) ∧ w588 = w') _ hN hd ⟨0, rfl, (sl_base hN rfl s0), (sl_hit hN rfl), (sl_hit hN rfl), (sl_hit hN rfl), (sl_hit hN rfl), (sl_hit hN rfl), (sl_hit hN rfl), (sl_hit hN rfl), (sl_hit hN rfl), (sl_hit hN rfl), (sl_hit hN rfl), (sl_hit hN rfl), (sl_hit hN rfl), (sl_hit hN rfl), (sl_hit hN rfl), (sl_hit hN rfl), (sl_hit hN rfl), (sl_hit hN rfl), (sl_hit hN rfl), (sl_hit hN rfl), Nat.zero_le _, (by simp), rfl⟩ ?_
          rintro _ a602 _ hN602 hd602 ⟨i, rfl, s602_0, s602_1, s602_4, s602_5, s602_6, s602_10, s602_11, s602_12, s602_13, s602_14, s602_15, s602_16, s602_17, s602_18, s602_19, s602_20, s602_21, s602_22, s602_23, s602_3, hi, hall, rfl⟩
          refine seq_any fun K603 hK603 => ?_
          refine seq_any fun K604 hK604 => ?_
          refine one_reg ?_
          refine op_move (ev_base hN602 rfl s602_3) ?_
          refine op_field fld50_2 (ev_base hN602 rfl s602_1) ?_
          refine op_load1 (v := (Value.string (bs x.s))) one9 (ev_hit hN602 rfl) (hB591.cell rfl) ?_
          refine op_len_str Try.underlying9 (ev_hit hN602 rfl) ?_
          refine op_lss (ev_hit hN602 rfl) (ev_hit hN602 rfl) (fun c28 => ?_) (fun c28 => ?_)
          · -- 28 True
            refine reg_nil ?_
            refine hK604 _ _ ?_
            refine wp_cond_true (ev_hit hN602 rfl) ?_
            refine wp_skip ?_
            refine hK603 _ _ ?_
            refine seq_any fun K605 hK605 => ?_
            refine wp_block ?_
            refine seq_any fun K606 hK606 => ?_
            refine one_reg ?_
            refine op_field fld50_2 (ev_base hN602 rfl s602_1) ?_
            refine op_load1 (v := (Value.string (bs x.s))) one9 (ev_hit hN602 rfl) (hB591.cell rfl) ?_
            refine op_move (ev_base hN602 rfl s602_3) ?_
            refine op_index_str (b := (x.s.getD i 0)) Try.underlying9 (ev_hit hN602 rfl) (ev_hit hN602 rfl) (by omega) (el_str (i := i) (by omega) (by omega)) ?_
            refine op_lss (ev_hit hN602 rfl) rfl (fun c35 => ?_) (fun c35 => ?_)
            · -- 35 True
              refine op_move (ev_hit hN602 rfl) ?_
              refine g_false (j := 5) (dj := 36) (b := false) rfl rfl rfl (ev_hit hN602 rfl) rfl rfl ?_
              refine g_false (j := 5) (dj := 36) (b := false) rfl rfl rfl (ev_hit hN602 rfl) rfl rfl ?_
              refine g_false (j := 5) (dj := 36) (b := false) rfl rfl rfl (ev_hit hN602 rfl) rfl rfl ?_
              refine g_false (j := 5) (dj := 36) (b := false) rfl rfl rfl (ev_hit hN602 rfl) rfl rfl ?_
              refine g_false (j := 5) (dj := 36) (b := false) rfl rfl rfl (ev_hit hN602 rfl) rfl rfl ?_
              refine op_pick_t (ev_hit hN602 rfl) rfl ?_
              refine reg_nil ?_
              refine hK606 _ _ ?_
              refine wp_cond_true (ev_hit hN602 rfl) ?_
              refine seq_any fun K607 hK607 => ?_
              refine one_reg ?_
              refine op_assign rfl ?_
              refine reg_nil ?_
              refine hK607 _ _ ?_
              refine wp_ret (blk_ret (then_ret (then_ret (blk_ret (then_ret ( ?_))))))
              refine ret1 rfl hd602 (ev_hit hN602 rfl) ⟨_, rfl, ?_⟩
              -- path 6F 12F 16F 22F 28T 35T
              exact ⟨hb, congrArg Value.bool (by rw [mayV, if_neg c6, all_bad (i := i) (by omega) (okB_f (by omega))]; rfl)⟩
            · -- 35 False
              refine op_move (ev_hit hN602 rfl) ?_
              refine g_true (j := 5) (dj := 36) (b := false) rfl rfl rfl (ev_hit hN602 rfl) ?_
              refine op_field fld50_2 (ev_base hN602 rfl s602_1) ?_
              refine g_true (j := 5) (dj := 36) (b := false) rfl rfl rfl (ev_hit hN602 rfl) ?_
              refine op_load1 (v := (Value.string (bs x.s))) one9 (ev_hit hN602 rfl) (hB591.cell rfl) ?_
              refine g_true (j := 5) (dj := 36) (b := false) rfl rfl rfl (ev_hit hN602 rfl) ?_
              refine op_move (ev_base hN602 rfl s602_3) ?_
              refine g_true (j := 5) (dj := 36) (b := false) rfl rfl rfl (ev_hit hN602 rfl) ?_
              refine op_index_str (b := (x.s.getD i 0)) Try.underlying9 (ev_hit hN602 rfl) (ev_hit hN602 rfl) (by omega) (el_str (i := i) (by omega) (by omega)) ?_
              refine g_true (j := 5) (dj := 36) (b := false) rfl rfl rfl (ev_hit hN602 rfl) ?_
              refine op_gtr (ev_hit hN602 rfl) rfl (fun c41 => ?_) (fun c41 => ?_)
              · -- 41 True
                refine op_pick_f (ev_hit hN602 rfl) (ev_hit hN602 rfl) ?_
                refine reg_nil ?_
                refine hK606 _ _ ?_
                refine wp_cond_true (ev_hit hN602 rfl) ?_
                refine seq_any fun K608 hK608 => ?_
                refine one_reg ?_
                refine op_assign rfl ?_
                refine reg_nil ?_
                refine hK608 _ _ ?_
                refine wp_ret (blk_ret (then_ret (then_ret (blk_ret (then_ret ( ?_))))))
                refine ret1 rfl hd602 (ev_hit hN602 rfl) ⟨_, rfl, ?_⟩
                -- path 6F 12F 16F 22F 28T 35F 41T
                exact ⟨hb, congrArg Value.bool (by rw [mayV, if_neg c6, all_bad (i := i) (by omega) (okB_f (by omega))]; rfl)⟩
              · -- 41 False
                refine op_pick_f (ev_hit hN602 rfl) (ev_hit hN602 rfl) ?_
                refine reg_nil ?_
                refine hK606 _ _ ?_
                refine wp_cond_false (ev_hit hN602 rfl) ?_
                refine wp_skip ?_
                refine hK605 _ _ ?_
                refine one_reg ?_
                refine op_move (ev_base hN602 rfl s602_3) ?_
                refine op_add (ev_hit hN602 rfl) rfl (add64 (by omega)) ?_
                refine op_assign (ev_hit hN602 rfl) ?_
                refine reg_nil ?_
                -- round 6F 12F 16F 22F 28T 35F 41F
                exact loop_next _ hN602 hd602 ⟨i + 1, rfl, (sl_base hN602 rfl s602_0), (sl_base hN602 rfl s602_1), (sl_base hN602 rfl s602_4), (sl_base hN602 rfl s602_5), (sl_base hN602 rfl s602_6), (sl_base hN602 rfl s602_10), (sl_base hN602 rfl s602_11), (sl_base hN602 rfl s602_12), (sl_base hN602 rfl s602_13), (sl_base hN602 rfl s602_14), (sl_base hN602 rfl s602_15), (sl_base hN602 rfl s602_16), (sl_base hN602 rfl s602_17), (sl_base hN602 rfl s602_18), (sl_base hN602 rfl s602_19), (sl_base hN602 rfl s602_20), (sl_base hN602 rfl s602_21), (sl_base hN602 rfl s602_22), (sl_base hN602 rfl s602_23), (sl_hit hN602 rfl).trans (congrArg (Value.int .i64) (by omega)), (by omega), (all_snoc (by omega) hall (okB_t (by omega))), rfl⟩ (by omega)
          · -- 28 False
            refine reg_nil ?_
            refine hK604 _ _ ?_
            refine wp_cond_false (ev_hit hN602 rfl) ?_
            refine wp_exit (then_exit (then_exit (blk_hit ?_)))
            refine hK600 _ _ ?_
            refine seq_any fun K609 hK609 => ?_
            refine one_reg ?_
            refine op_assign rfl ?_
            refine reg_nil ?_
            refine hK609 _ _ ?_
            refine wp_ret ?_
            refine ret1 rfl hd602 (ev_hit hN602 rfl) ⟨_, rfl, ?_⟩
            -- path 6F 12F 16F 22F 28F
            exact ⟨hb, congrArg Value.bool (by rw [mayV, if_neg c6, all_whole (by omega) hall]; simp; omega)⟩

theorem text_ret (bl : List UInt8) (v : Value) (w : World) (hl : bl.length ≤ 1000000000000) (hv : RdC w 0 w.heap.size 1 v bl.length (bl.map u8v)) : Ret Try.prog 72 #[v] w (fun v' w' => Below w.heap.size w w' ∧ v' = (Value.tuple #[(Value.agg #[(Value.int .i64 (textR bl).1.k), (Value.int .i64 (textR bl).1.n), (Value.string (bs (textR bl).1.s))]), (Value.int .i64 (textR bl).2.1), (Value.int .i64 (textR bl).2.2)])) := by
  have hb := Below.refl w.heap.size w
  refine enter (N := 33) Try.func72 rfl rfl (by simp) fun a0 hN hd hA => ?_
  have s0 : a0.tmps.getD 0 undef = v := hA 0 (by simp)
  clear hA
  refine seq_any fun K610 hK610 => ?_
  refine one_reg ?_
  refine op_alloc (cs := [(Value.int .i64 0), (Value.int .i64 0), (Value.string (bs []))]) zero50 rfl ?_
  intro w611 b612 lo_b612 hi_b612 hB614 E613
  have z_w611 := E613.size
  have hv := hv.keep0 E613
  have hb := below_step0 hb E613 hb.size
  refine op_assign rfl ?_
  refine op_assign rfl ?_
  refine reg_nil ?_
  refine hK610 _ _ ?_
  refine seq_any fun K615 hK615 => ?_
  refine seq_any fun K616 hK616 => ?_
  refine one_reg ?_
  refine op_move (ev_base hN rfl s0) ?_
  refine op_len_rd Try.underlying22 (ev_hit hN rfl) hv ?_
  refine op_move rfl ?_
  refine reg_nil ?_
  refine hK616 _ _ ?_
  refine wp_block ?_
  refine loop_m (fun m a w' => ∃ (i : Nat), m = bl.length - i ∧ (a.tmps.getD 0 undef = v) ∧ (a.tmps.getD 2 undef = (ptr b612 0)) ∧ (a.tmps.getD 7 undef = v) ∧ (a.tmps.getD 8 undef = (Value.int .i64 ((bl.length : Nat) : Int))) ∧ (a.tmps.getD 9 undef = (Value.int .i64 ((i : Nat) : Int))) ∧ (i ≤ bl.length) ∧ (scanT bl 0 = scanT (bl.drop i) i) ∧ w611 = w') _ hN hd ⟨0, rfl, (sl_base hN rfl s0), (sl_hit hN rfl), (sl_hit hN rfl), (sl_hit hN rfl), (sl_hit hN rfl), Nat.zero_le _, rfl, rfl⟩ ?_
  rintro _ a617 _ hN617 hd617 ⟨i, rfl, s617_0, s617_2, s617_7, s617_8, s617_9, hi, he, rfl⟩
  refine seq_any fun K618 hK618 => ?_
  refine one_reg ?_
  refine op_lss (ev_base hN617 rfl s617_9) (ev_base hN617 rfl s617_8) (fun c10 => ?_) (fun c10 => ?_)
  · -- 10 True
    refine reg_nil ?_
    refine hK618 _ _ ?_
    refine seq_any fun K619 hK619 => ?_
    refine wp_cond_true (ev_hit hN617 rfl) ?_
    refine wp_skip ?_
    refine hK619 _ _ ?_
    refine seq_any fun K620 hK620 => ?_
    refine wp_block ?_
    refine seq_any fun K621 hK621 => ?_
    refine one_reg ?_
    refine op_move (ev_base hN617 rfl s617_9) ?_
    refine op_index_rd slt22 (ev_base hN617 rfl s617_7) hv (ev_base hN617 rfl s617_9) (by omega) (by omega) ?_
    intro b622 o623 _ _ hc624
    refine op_load1 (v := (Value.int .u8 ((bl.getD i 0).toNat : Int))) one5 (ev_hit hN617 rfl) (by have := hc624 0 (Value.int .u8 ((bl.getD i 0).toNat : Int)) (by decide) (el_u8 (i := i) (by omega) (by omega)); simpa using this) ?_
    refine op_assign (ev_hit hN617 rfl) ?_
    refine op_assign (ev_hit hN617 rfl) ?_
    refine reg_nil ?_
    refine hK621 _ _ ?_
    refine wp_block ?_
    refine seq_any fun K625 hK625 => ?_
    refine one_reg ?_
    refine op_move (ev_hit hN617 rfl) ?_
    refine op_eql (ev_hit hN617 rfl) rfl (fun c16 => ?_) (fun c16 => ?_)
    · -- 16 True
      refine op_assign (ev_hit hN617 rfl) ?_
      refine reg_nil ?_
      refine hK625 _ _ ?_
      refine wp_cond_true (ev_hit hN617 rfl) ?_
      refine seq_any fun K626 hK626 => ?_
      refine one_reg ?_
      refine op_move (ev_base hN617 rfl s617_0) ?_
      refine op_move (ev_hit hN617 rfl) ?_
      refine op_slice_rd (lo := 0) (hi := i) slt22 (ev_hit hN617 rfl) hv (.inl ⟨rfl, rfl⟩) (.inr ⟨_, _, rfl, (ev_hit hN617 rfl)⟩) (by omega) (by omega) ?_
      intro v627 hR628
      have hR628 : RdC w611 0 w.heap.size 1 v627 i (((bl.take i)).map u8v) := by simpa [List.map_drop, List.map_take] using hR628
      refine op_str_of (bl := (bl.take i)) Try.underlying22 Try.underlying5 Try.underlying9 (ev_hit hN617 rfl) hR628 ?_
      refine op_build (pv := [(0, (Value.int .i64 2)), (2, (Value.string (bs (bl.take i))))]) (v := (Value.agg #[(Value.int .i64 2), (Value.int .i64 0), (Value.string (bs (bl.take i)))])) ⟨rfl, rfl, ⟨rfl, (ev_hit hN617 rfl), trivial⟩⟩ (by kernel_rfl) ?_
      refine op_move (ev_hit hN617 rfl) ?_
      refine op_add (ev_hit hN617 rfl) rfl (add64 (by omega)) ?_
      have hB614_old := hB614
      refine op_store (vs := [(Value.int .i64 2), (Value.int .i64 0), (Value.string (bs (bl.take i)))]) (cs' := [(Value.int .i64 2), (Value.int .i64 0), (Value.string (bs (bl.take i)))]) size50 (ev_base hN617 rfl s617_2) (ev_hit hN617 rfl) rfl rfl rfl hB614 (Nat.le_of_ble_eq_true rfl) rfl ?_
      intro w631 hB614 E632
      have z_w631 := E632.size
      have hv := hv.keep E632 (fun k hk => .inr (by simp at hk; omega))
      have hR628 := hR628.keep E632 (fun k hk => .inr (by simp at hk; omega))
      have hb := below_step1 hb E632 hb.size (by omega)
      refine op_assign (ev_hit hN617 rfl) ?_
      refine op_assign rfl ?_
      refine reg_nil ?_
      refine hK626 _ _ ?_
      refine wp_ret (blk_ret (blk_ret (then_ret (then_ret (blk_ret (then_ret ( ?_)))))))
      refine retN (rs := [.cell 2 50, .tmp 3, .tmp 4]) (vs := [(Value.agg #[(Value.int .i64 2), (Value.int .i64 0), (Value.string (bs (bl.take i)))]), (Value.int .i64 (((i : Nat) : Int) + 2)), (Value.int .i64 0)]) rfl hd617 ⟨⟨_, (ev_base hN617 rfl s617_2), run_loadA (cs := [(Value.int .i64 2), (Value.int .i64 0), (Value.string (bs (bl.take i)))]) agg50 rfl (fun j u hu => by rw [Nat.zero_add]; exact hB614.cell hu)⟩, ⟨(ev_hit hN617 rfl), ⟨(ev_hit hN617 rfl), trivial⟩⟩⟩ rfl ⟨_, rfl, ?_⟩
      -- path 10T 16T
      have hq : textR bl = (⟨2, 0, bl.take i⟩, (i : Int) + 2, 0) := textR_of (q := .inr i) (by rw [he, scan_step (by omega), if_pos (by omega)])
      rw [hq]
      exact ⟨hb, rfl⟩
    · -- 16 False
      refine op_assign (ev_hit hN617 rfl) ?_
      refine reg_nil ?_
      refine hK625 _ _ ?_
      refine wp_cond_false (ev_hit hN617 rfl) ?_
      refine seq_any fun K633 hK633 => ?_
      refine seq_any fun K634 hK634 => ?_
      refine one_reg ?_
      refine op_move (ev_hit hN617 rfl) ?_
      refine op_eql (ev_hit hN617 rfl) rfl (fun c26 => ?_) (fun c26 => ?_)
      · -- 26 True
        refine op_assign (ev_hit hN617 rfl) ?_
        refine reg_nil ?_
        refine hK634 _ _ ?_
        refine wp_cond_true (ev_hit hN617 rfl) ?_
        refine wp_skip ?_
        refine hK633 _ _ ?_
        refine wp_cond_true (ev_hit hN617 rfl) ?_
        refine seq_any fun K635 hK635 => ?_
        refine one_reg ?_
        refine op_loadA (cs := [(Value.int .i64 0), (Value.int .i64 0), (Value.string (bs []))]) agg50 rfl (ev_base hN617 rfl s617_2) (fun j u hu => by rw [Nat.zero_add]; exact hB614.cell hu) ?_
        have hB614_old := hB614
        refine op_store (vs := [(Value.int .i64 0), (Value.int .i64 0), (Value.string (bs []))]) (cs' := [(Value.int .i64 0), (Value.int .i64 0), (Value.string (bs []))]) size50 (ev_base hN617 rfl s617_2) (ev_hit hN617 rfl) rfl rfl rfl hB614 (Nat.le_of_ble_eq_true rfl) rfl ?_
        intro w638 hB614 E639
        have z_w638 := E639.size
        have hv := hv.keep E639 (fun k hk => .inr (by simp at hk; omega))
        have hb := below_step1 hb E639 hb.size (by omega)
        refine op_assign rfl ?_
        refine op_assign rfl ?_
        refine reg_nil ?_
        refine hK635 _ _ ?_
        refine wp_ret (blk_ret (blk_ret (then_ret (then_ret (blk_ret (then_ret ( ?_)))))))
        refine retN (rs := [.cell 2 50, .tmp 3, .tmp 4]) (vs := [(Value.agg #[(Value.int .i64 0), (Value.int .i64 0), (Value.string (bs []))]), (Value.int .i64 0), (Value.int .i64 3)]) rfl hd617 ⟨⟨_, (ev_base hN617 rfl s617_2), run_loadA (cs := [(Value.int .i64 0), (Value.int .i64 0), (Value.string (bs []))]) agg50 rfl (fun j u hu => by rw [Nat.zero_add]; exact hB614.cell hu)⟩, ⟨(ev_hit hN617 rfl), ⟨(ev_hit hN617 rfl), trivial⟩⟩⟩ rfl ⟨_, rfl, ?_⟩
        -- path 10T 16F 26T
        have hq : textR bl = (V0, 0, 3) := textR_of (q := .inl 3) (by rw [he, scan_step (by omega), if_neg (by omega), if_pos (.inl (by omega))])
        rw [hq]
        exact ⟨hb, rfl⟩
      · -- 26 False
        refine op_assign (ev_hit hN617 rfl) ?_
        refine reg_nil ?_
        refine hK634 _ _ ?_
        refine wp_cond_false (ev_hit hN617 rfl) ?_
        refine one_reg ?_
        refine op_move (ev_hit hN617 rfl) ?_
        refine op_fn (vs := [(Value.int .u8 ((bl.getD i 0).toNat : Int))]) ok67 ⟨(ev_hit hN617 rfl), trivial⟩ (may_ret (bl.getD i 0) _) ?_
        rintro _ _ ⟨rfl, rfl⟩
        rcases Bool.eq_false_or_eq_true ((okB (bl.getD i 0))) with c28 | c28
        · -- 28 True
          rw [c28]
          refine op_not (ev_hit hN617 rfl) ?_
          refine op_assign (ev_hit hN617 rfl) ?_
          refine reg_nil ?_
          refine hK633 _ _ ?_
          refine wp_cond_false (ev_hit hN617 rfl) ?_
          refine wp_skip ?_
          refine hK620 _ _ ?_
          refine one_reg ?_
          refine op_add (ev_base hN617 rfl s617_9) rfl (add64 (by omega)) ?_
          refine op_move (ev_hit hN617 rfl) ?_
          refine reg_nil ?_
          -- round 10T 16F 26F 28T
          exact loop_next _ hN617 hd617 ⟨i + 1, rfl, (sl_base hN617 rfl s617_0), (sl_base hN617 rfl s617_2), (sl_base hN617 rfl s617_7), (sl_base hN617 rfl s617_8), (sl_hit hN617 rfl).trans (congrArg (Value.int .i64) (by omega)), (by omega), (by rw [he, scan_step (by omega), if_neg (by omega), if_neg (fun h => h.elim (fun h => by omega) (fun h => by rw [c28] at h; cases h))]), rfl⟩ (by omega)
        · -- 28 False
          rw [c28]
          refine op_not (ev_hit hN617 rfl) ?_
          refine op_assign (ev_hit hN617 rfl) ?_
          refine reg_nil ?_
          refine hK633 _ _ ?_
          refine wp_cond_true (ev_hit hN617 rfl) ?_
          refine seq_any fun K640 hK640 => ?_
          refine one_reg ?_
          refine op_loadA (cs := [(Value.int .i64 0), (Value.int .i64 0), (Value.string (bs []))]) agg50 rfl (ev_base hN617 rfl s617_2) (fun j u hu => by rw [Nat.zero_add]; exact hB614.cell hu) ?_
          have hB614_old := hB614
          refine op_store (vs := [(Value.int .i64 0), (Value.int .i64 0), (Value.string (bs []))]) (cs' := [(Value.int .i64 0), (Value.int .i64 0), (Value.string (bs []))]) size50 (ev_base hN617 rfl s617_2) (ev_hit hN617 rfl) rfl rfl rfl hB614 (Nat.le_of_ble_eq_true rfl) rfl ?_
          intro w643 hB614 E644
          have z_w643 := E644.size
          have hv := hv.keep E644 (fun k hk => .inr (by simp at hk; omega))
          have hb := below_step1 hb E644 hb.size (by omega)
          refine op_assign rfl ?_
          refine op_assign rfl ?_
          refine reg_nil ?_
          refine hK640 _ _ ?_
          refine wp_ret (blk_ret (blk_ret (then_ret (then_ret (blk_ret (then_ret ( ?_)))))))
          refine retN (rs := [.cell 2 50, .tmp 3, .tmp 4]) (vs := [(Value.agg #[(Value.int .i64 0), (Value.int .i64 0), (Value.string (bs []))]), (Value.int .i64 0), (Value.int .i64 3)]) rfl hd617 ⟨⟨_, (ev_base hN617 rfl s617_2), run_loadA (cs := [(Value.int .i64 0), (Value.int .i64 0), (Value.string (bs []))]) agg50 rfl (fun j u hu => by rw [Nat.zero_add]; exact hB614.cell hu)⟩, ⟨(ev_hit hN617 rfl), ⟨(ev_hit hN617 rfl), trivial⟩⟩⟩ rfl ⟨_, rfl, ?_⟩
          -- path 10T 16F 26F 28F
          have hq : textR bl = (V0, 0, 3) := textR_of (q := .inl 3) (by rw [he, scan_step (by omega), if_neg (by omega), if_pos (.inr c28)])
          rw [hq]
          exact ⟨hb, rfl⟩
  · -- 10 False
    refine reg_nil ?_
    refine hK618 _ _ ?_
    refine seq_any fun K645 hK645 => ?_
    refine wp_cond_false (ev_hit hN617 rfl) ?_
    refine wp_exit (then_exit (then_exit (blk_hit ?_)))
    refine hK615 _ _ ?_
    refine seq_any fun K646 hK646 => ?_
    refine one_reg ?_
    refine op_loadA (cs := [(Value.int .i64 0), (Value.int .i64 0), (Value.string (bs []))]) agg50 rfl (ev_base hN617 rfl s617_2) (fun j u hu => by rw [Nat.zero_add]; exact hB614.cell hu) ?_
    have hB614_old := hB614
    refine op_store (vs := [(Value.int .i64 0), (Value.int .i64 0), (Value.string (bs []))]) (cs' := [(Value.int .i64 0), (Value.int .i64 0), (Value.string (bs []))]) size50 (ev_base hN617 rfl s617_2) (ev_hit hN617 rfl) rfl rfl rfl hB614 (Nat.le_of_ble_eq_true rfl) rfl ?_
    intro w649 hB614 E650
    have z_w649 := E650.size
    have hv := hv.keep E650 (fun k hk => .inr (by simp at hk; omega))
    have hb := below_step1 hb E650 hb.size (by omega)
    refine op_assign rfl ?_
    refine op_assign rfl ?_
    refine reg_nil ?_
    refine hK646 _ _ ?_
    refine wp_ret ?_
    refine retN (rs := [.cell 2 50, .tmp 3, .tmp 4]) (vs := [(Value.agg #[(Value.int .i64 0), (Value.int .i64 0), (Value.string (bs []))]), (Value.int .i64 0), (Value.int .i64 2)]) rfl hd617 ⟨⟨_, (ev_base hN617 rfl s617_2), run_loadA (cs := [(Value.int .i64 0), (Value.int .i64 0), (Value.string (bs []))]) agg50 rfl (fun j u hu => by rw [Nat.zero_add]; exact hB614.cell hu)⟩, ⟨(ev_hit hN617 rfl), ⟨(ev_hit hN617 rfl), trivial⟩⟩⟩ rfl ⟨_, rfl, ?_⟩
    -- path 10F
    have hq : textR bl = (V0, 0, 2) := textR_of (q := .inl 2) (by rw [he, scan_end (by omega)])
    rw [hq]
    exact ⟨hb, rfl⟩

end Go.Proofs.Ytkkongnmcfdioaa
