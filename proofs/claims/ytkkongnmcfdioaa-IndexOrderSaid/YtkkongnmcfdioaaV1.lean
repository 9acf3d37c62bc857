/- Walks, written by a program: what each function of the translation hands back. -/
import Derived.Test.YtkkongnmcfdioaaVSpec
import Derived.Test.YtkkongnmcfdioaaTy
namespace Go.Proofs.Ytkkongnmcfdioaa
open Go.Gx Go.RowKit
attribute [local irreducible] wpList Code.wp Calls

theorem may_ret (c : UInt8) (w : World) : Ret Try.prog 67 #[(Value.int .u8 (c.toNat : Int))] w (fun v' w' => v' = .bool (okB c) ∧ w' = w) := by
  have hb := Below.refl w.heap.size w
  refine enter (N := 9) Try.func67 rfl rfl (by simp) fun a0 hN hd hA => ?_
  have s0 : a0.tmps.getD 0 undef = (Value.int .u8 (c.toNat : Int)) := hA 0 (by simp)
  clear hA
  refine seq_any fun K1 hK1 => ?_
  refine one_reg ?_
  refine op_assign rfl ?_
  refine reg_nil ?_
  refine hK1 _ _ ?_
  refine seq_any fun K2 hK2 => ?_
  refine one_reg ?_
  refine op_move (ev_base hN rfl s0) ?_
  refine op_geq (ev_hit hN rfl) rfl (fun c4 => ?_) (fun c4 => ?_)
  · -- 4 True
    refine op_move (ev_hit hN rfl) ?_
    refine g_true (j := 2) (dj := 5) (b := true) rfl rfl rfl (ev_hit hN rfl) ?_
    refine op_move (ev_base hN rfl s0) ?_
    refine g_true (j := 2) (dj := 5) (b := true) rfl rfl rfl (ev_hit hN rfl) ?_
    refine op_leq (ev_hit hN rfl) rfl (fun c7 => ?_) (fun c7 => ?_)
    · -- 7 True
      refine op_pick_t (ev_hit hN rfl) (ev_hit hN rfl) ?_
      refine op_assign (ev_hit hN rfl) ?_
      refine reg_nil ?_
      refine hK2 _ _ ?_
      refine wp_ret ?_
      refine ret1 rfl hd (ev_hit hN rfl) ⟨_, rfl, ?_⟩
      -- path 4T 7T
      exact ⟨congrArg Value.bool (by simp [okB]; omega), rfl⟩
    · -- 7 False
      refine op_pick_t (ev_hit hN rfl) (ev_hit hN rfl) ?_
      refine op_assign (ev_hit hN rfl) ?_
      refine reg_nil ?_
      refine hK2 _ _ ?_
      refine wp_ret ?_
      refine ret1 rfl hd (ev_hit hN rfl) ⟨_, rfl, ?_⟩
      -- path 4T 7F
      exact ⟨congrArg Value.bool (by simp [okB]; omega), rfl⟩
  · -- 4 False
    refine op_move (ev_hit hN rfl) ?_
    refine g_false (j := 2) (dj := 5) (b := true) rfl rfl rfl (ev_hit hN rfl) rfl rfl ?_
    refine g_false (j := 2) (dj := 5) (b := true) rfl rfl rfl (ev_hit hN rfl) rfl rfl ?_
    refine op_pick_f (ev_hit hN rfl) rfl ?_
    refine op_assign (ev_hit hN rfl) ?_
    refine reg_nil ?_
    refine hK2 _ _ ?_
    refine wp_ret ?_
    refine ret1 rfl hd (ev_hit hN rfl) ⟨_, rfl, ?_⟩
    -- path 4F
    exact ⟨congrArg Value.bool (by simp [okB]; omega), rfl⟩

theorem May_ret (x : Vl) (w : World) (hs : x.s.length ≤ 9223372036854775807) : Ret Try.prog 31 #[(Value.agg #[(Value.int .i64 x.k), (Value.int .i64 x.n), (Value.string (bs x.s))])] w (fun v' w' => Below w.heap.size w w' ∧ v' = .bool (mayV x)) := by
  have hb := Below.refl w.heap.size w
  refine enter (N := 37) Try.func31 rfl rfl (by simp) fun a0 hN hd hA => ?_
  have s0 : a0.tmps.getD 0 undef = (Value.agg #[(Value.int .i64 x.k), (Value.int .i64 x.n), (Value.string (bs x.s))]) := hA 0 (by simp)
  clear hA
  refine seq_any fun K3 hK3 => ?_
  refine one_reg ?_
  refine op_box (cs := [(Value.int .i64 x.k), (Value.int .i64 x.n), (Value.string (bs x.s))]) (ev_base hN rfl s0) rfl ?_
  intro w4 b5 lo_b5 hi_b5 hB7 E6
  have z_w4 := E6.size
  have hb := below_step0 hb E6 hb.size
  refine op_assign rfl ?_
  refine reg_nil ?_
  refine hK3 _ _ ?_
  refine seq_any fun K8 hK8 => ?_
  refine seq_any fun K9 hK9 => ?_
  refine one_reg ?_
  refine op_field fld50_0 (ev_hit hN rfl) ?_
  refine op_load1 (v := (Value.int .i64 x.k)) one3 (ev_hit hN rfl) (hB7.cell rfl) ?_
  refine op_eql (ev_hit hN rfl) rfl (fun c7 => ?_) (fun c7 => ?_)
  · -- 7 True
    refine reg_nil ?_
    refine hK9 _ _ ?_
    refine wp_cond_true (ev_hit hN rfl) ?_
    refine seq_any fun K10 hK10 => ?_
    refine one_reg ?_
    refine op_field fld50_2 (ev_hit hN rfl) ?_
    refine op_load1 (v := (Value.string (bs x.s))) one9 (ev_hit hN rfl) (hB7.cell rfl) ?_
    refine op_seql (ev_hit hN rfl) rfl (fun c10 => ?_) (fun c10 => ?_)
    · -- 10 True
      refine op_assign (ev_hit hN rfl) ?_
      refine reg_nil ?_
      refine hK10 _ _ ?_
      refine wp_ret (then_ret ( ?_))
      refine ret1 rfl hd (ev_hit hN rfl) ⟨_, rfl, ?_⟩
      -- path 7T 10T
      exact ⟨hb, congrArg Value.bool (by simp [mayV, *])⟩
    · -- 10 False
      refine op_assign (ev_hit hN rfl) ?_
      refine reg_nil ?_
      refine hK10 _ _ ?_
      refine wp_ret (then_ret ( ?_))
      refine ret1 rfl hd (ev_hit hN rfl) ⟨_, rfl, ?_⟩
      -- path 7T 10F
      exact ⟨hb, congrArg Value.bool (by simp [mayV, *])⟩
  · -- 7 False
    refine reg_nil ?_
    refine hK9 _ _ ?_
    refine wp_cond_false (ev_hit hN rfl) ?_
    refine wp_skip ?_
    refine hK8 _ _ ?_
    refine seq_any fun K11 hK11 => ?_
    refine seq_any fun K12 hK12 => ?_
    refine one_reg ?_
    refine op_field fld50_2 (ev_hit hN rfl) ?_
    refine op_load1 (v := (Value.string (bs x.s))) one9 (ev_hit hN rfl) (hB7.cell rfl) ?_
    refine op_bytes_of (bl := x.s) Try.underlying9 Try.underlying22 Try.underlying5 (ev_hit hN rfl) (by unfold maxLen; omega) hb.size ?_
    intro v15 w13 hO16 E14 lo17
    have z_w13 := E14.size
    have hB7 := hB7.keep0 E14
    have hb := below_step0 hb E14 hb.size
    refine op_len_rd Try.underlying22 (ev_hit hN rfl) hO16.rdw ?_
    refine op_move rfl ?_
    refine reg_nil ?_
    refine hK12 _ _ ?_
    refine wp_block ?_
    refine loop_m (fun m a w' => ∃ (i : Nat), m = x.s.length - i ∧ (a.tmps.getD 0 undef = (Value.agg #[(Value.int .i64 x.k), (Value.int .i64 x.n), (Value.string (bs x.s))])) ∧ (a.tmps.getD 1 undef = (ptr b5 0)) ∧ (a.tmps.getD 5 undef = (ptr b5 0)) ∧ (a.tmps.getD 6 undef = (Value.int .i64 x.k)) ∧ (a.tmps.getD 7 undef = (Value.bool false)) ∧ (a.tmps.getD 11 undef = (ptr b5 2)) ∧ (a.tmps.getD 12 undef = (Value.string (bs x.s))) ∧ (a.tmps.getD 13 undef = v15) ∧ (a.tmps.getD 14 undef = (Value.int .i64 ((x.s.length : Nat) : Int))) ∧ (a.tmps.getD 15 undef = (Value.int .i64 ((i : Nat) : Int))) ∧ (i ≤ x.s.length) ∧ ((x.s.take i).all okB = true) ∧ w13 = w') _ hN hd ⟨0, rfl, (sl_base hN rfl s0), (sl_hit hN rfl), (sl_hit hN rfl), (sl_hit hN rfl), (sl_hit hN rfl), (sl_hit hN rfl), (sl_hit hN rfl), (sl_hit hN rfl), (sl_hit hN rfl), (sl_hit hN rfl), Nat.zero_le _, (by simp), rfl⟩ ?_
    rintro _ a18 _ hN18 hd18 ⟨i, rfl, s18_0, s18_1, s18_5, s18_6, s18_7, s18_11, s18_12, s18_13, s18_14, s18_15, hi, hall, rfl⟩
    refine seq_any fun K19 hK19 => ?_
    refine one_reg ?_
    refine op_lss (ev_base hN18 rfl s18_15) (ev_base hN18 rfl s18_14) (fun c16 => ?_) (fun c16 => ?_)
    · -- 16 True
      refine reg_nil ?_
      refine hK19 _ _ ?_
      refine seq_any fun K20 hK20 => ?_
      refine wp_cond_true (ev_hit hN18 rfl) ?_
      refine wp_skip ?_
      refine hK20 _ _ ?_
      refine seq_any fun K21 hK21 => ?_
      refine wp_block ?_
      refine seq_any fun K22 hK22 => ?_
      refine one_reg ?_
      refine op_index_rd slt22 (ev_base hN18 rfl s18_13) hO16.rdw (ev_base hN18 rfl s18_15) (by omega) (by omega) ?_
      intro b23 o24 _ _ hc25
      refine op_load1 (v := (Value.int .u8 ((x.s.getD i 0).toNat : Int))) one5 (ev_hit hN18 rfl) (by have := hc25 0 (Value.int .u8 ((x.s.getD i 0).toNat : Int)) (by decide) (el_u8 (i := i) (by omega) (by omega)); simpa using this) ?_
      refine op_assign (ev_hit hN18 rfl) ?_
      refine reg_nil ?_
      refine hK22 _ _ ?_
      refine seq_any fun K26 hK26 => ?_
      refine one_reg ?_
      refine op_move (ev_hit hN18 rfl) ?_
      refine op_fn (vs := [(Value.int .u8 ((x.s.getD i 0).toNat : Int))]) ok67 ⟨(ev_hit hN18 rfl), trivial⟩ (may_ret (x.s.getD i 0) _) ?_
      rintro _ _ ⟨rfl, rfl⟩
      rcases Bool.eq_false_or_eq_true ((okB (x.s.getD i 0))) with c20 | c20
      · -- 20 True
        rw [c20]
        refine op_not (ev_hit hN18 rfl) ?_
        refine reg_nil ?_
        refine hK26 _ _ ?_
        refine wp_cond_false (ev_hit hN18 rfl) ?_
        refine wp_skip ?_
        refine hK21 _ _ ?_
        refine one_reg ?_
        refine op_add (ev_base hN18 rfl s18_15) rfl (add64 (by omega)) ?_
        refine op_move (ev_hit hN18 rfl) ?_
        refine reg_nil ?_
        -- round 7F 16T 20T
        exact loop_next _ hN18 hd18 ⟨i + 1, rfl, (sl_base hN18 rfl s18_0), (sl_base hN18 rfl s18_1), (sl_base hN18 rfl s18_5), (sl_base hN18 rfl s18_6), (sl_base hN18 rfl s18_7), (sl_base hN18 rfl s18_11), (sl_base hN18 rfl s18_12), (sl_base hN18 rfl s18_13), (sl_base hN18 rfl s18_14), (sl_hit hN18 rfl).trans (congrArg (Value.int .i64) (by omega)), (by omega), (all_snoc (by omega) hall c20), rfl⟩ (by omega)
      · -- 20 False
        rw [c20]
        refine op_not (ev_hit hN18 rfl) ?_
        refine reg_nil ?_
        refine hK26 _ _ ?_
        refine wp_cond_true (ev_hit hN18 rfl) ?_
        refine seq_any fun K27 hK27 => ?_
        refine one_reg ?_
        refine op_assign rfl ?_
        refine reg_nil ?_
        refine hK27 _ _ ?_
        refine wp_ret (blk_ret (then_ret (then_ret (blk_ret (then_ret ( ?_))))))
        refine ret1 rfl hd18 (ev_hit hN18 rfl) ⟨_, rfl, ?_⟩
        -- path 7F 16T 20F
        exact ⟨hb, congrArg Value.bool (by rw [mayV, if_neg c7, all_bad (by omega) c20]; rfl)⟩
    · -- 16 False
      refine reg_nil ?_
      refine hK19 _ _ ?_
      refine seq_any fun K28 hK28 => ?_
      refine wp_cond_false (ev_hit hN18 rfl) ?_
      refine wp_exit (then_exit (then_exit (blk_hit ?_)))
      refine hK11 _ _ ?_
      refine seq_any fun K29 hK29 => ?_
      refine one_reg ?_
      refine op_field fld50_0 (ev_base hN18 rfl s18_1) ?_
      refine op_load1 (v := (Value.int .i64 x.k)) one3 (ev_hit hN18 rfl) (hB7.cell rfl) ?_
      refine op_eql (ev_hit hN18 rfl) rfl (fun c25 => ?_) (fun c25 => ?_)
      · -- 25 True
        refine op_move (ev_hit hN18 rfl) ?_
        refine g_true (j := 3) (dj := 26) (b := true) rfl rfl rfl (ev_hit hN18 rfl) ?_
        refine op_field fld50_1 (ev_base hN18 rfl s18_1) ?_
        refine g_true (j := 3) (dj := 26) (b := true) rfl rfl rfl (ev_hit hN18 rfl) ?_
        refine op_load1 (v := (Value.int .i64 x.n)) one2 (ev_hit hN18 rfl) (hB7.cell rfl) ?_
        refine g_true (j := 3) (dj := 26) (b := true) rfl rfl rfl (ev_hit hN18 rfl) ?_
        refine op_eql (ev_hit hN18 rfl) rfl (fun c29 => ?_) (fun c29 => ?_)
        · -- 29 True
          refine op_pick_t (ev_hit hN18 rfl) (ev_hit hN18 rfl) ?_
          refine op_move (ev_hit hN18 rfl) ?_
          refine g_true (j := 8) (dj := 31) (b := true) rfl rfl rfl (ev_hit hN18 rfl) ?_
          refine op_field fld50_2 (ev_base hN18 rfl s18_1) ?_
          refine g_true (j := 8) (dj := 31) (b := true) rfl rfl rfl (ev_hit hN18 rfl) ?_
          refine op_load1 (v := (Value.string (bs x.s))) one9 (ev_hit hN18 rfl) (hB7.cell rfl) ?_
          refine g_true (j := 8) (dj := 31) (b := true) rfl rfl rfl (ev_hit hN18 rfl) ?_
          refine op_len_str Try.underlying9 (ev_hit hN18 rfl) ?_
          refine g_true (j := 8) (dj := 31) (b := true) rfl rfl rfl (ev_hit hN18 rfl) ?_
          refine op_leq (ev_hit hN18 rfl) rfl (fun c35 => ?_) (fun c35 => ?_)
          · -- 35 True
            refine op_pick_t (ev_hit hN18 rfl) (ev_hit hN18 rfl) ?_
            refine op_assign (ev_hit hN18 rfl) ?_
            refine reg_nil ?_
            refine hK29 _ _ ?_
            refine wp_ret ?_
            refine ret1 rfl hd18 (ev_hit hN18 rfl) ⟨_, rfl, ?_⟩
            -- path 7F 16F 25T 29T 35T
            exact ⟨hb, congrArg Value.bool (by rw [mayV, if_neg c7, all_whole (by omega) hall]; simp [*]; try omega)⟩
          · -- 35 False
            refine op_pick_t (ev_hit hN18 rfl) (ev_hit hN18 rfl) ?_
            refine op_assign (ev_hit hN18 rfl) ?_
            refine reg_nil ?_
            refine hK29 _ _ ?_
            refine wp_ret ?_
            refine ret1 rfl hd18 (ev_hit hN18 rfl) ⟨_, rfl, ?_⟩
            -- path 7F 16F 25T 29T 35F
            exact ⟨hb, congrArg Value.bool (by rw [mayV, if_neg c7, all_whole (by omega) hall]; simp [*]; try omega)⟩
        · -- 29 False
          refine op_pick_t (ev_hit hN18 rfl) (ev_hit hN18 rfl) ?_
          refine op_move (ev_hit hN18 rfl) ?_
          refine g_false (j := 8) (dj := 31) (b := true) rfl rfl rfl (ev_hit hN18 rfl) rfl rfl ?_
          refine g_false (j := 8) (dj := 31) (b := true) rfl rfl rfl (ev_hit hN18 rfl) rfl rfl ?_
          refine g_false (j := 8) (dj := 31) (b := true) rfl rfl rfl (ev_hit hN18 rfl) rfl rfl ?_
          refine g_false (j := 8) (dj := 31) (b := true) rfl rfl rfl (ev_hit hN18 rfl) rfl rfl ?_
          refine op_pick_f (ev_hit hN18 rfl) rfl ?_
          refine op_assign (ev_hit hN18 rfl) ?_
          refine reg_nil ?_
          refine hK29 _ _ ?_
          refine wp_ret ?_
          refine ret1 rfl hd18 (ev_hit hN18 rfl) ⟨_, rfl, ?_⟩
          -- path 7F 16F 25T 29F
          exact ⟨hb, congrArg Value.bool (by rw [mayV, if_neg c7, all_whole (by omega) hall]; simp [*]; try omega)⟩
      · -- 25 False
        refine op_move (ev_hit hN18 rfl) ?_
        refine g_false (j := 3) (dj := 26) (b := true) rfl rfl rfl (ev_hit hN18 rfl) rfl rfl ?_
        refine g_false (j := 3) (dj := 26) (b := true) rfl rfl rfl (ev_hit hN18 rfl) rfl rfl ?_
        refine g_false (j := 3) (dj := 26) (b := true) rfl rfl rfl (ev_hit hN18 rfl) rfl rfl ?_
        refine op_pick_f (ev_hit hN18 rfl) rfl ?_
        refine op_move (ev_hit hN18 rfl) ?_
        refine g_false (j := 8) (dj := 31) (b := true) rfl rfl rfl (ev_hit hN18 rfl) rfl rfl ?_
        refine g_false (j := 8) (dj := 31) (b := true) rfl rfl rfl (ev_hit hN18 rfl) rfl rfl ?_
        refine g_false (j := 8) (dj := 31) (b := true) rfl rfl rfl (ev_hit hN18 rfl) rfl rfl ?_
        refine g_false (j := 8) (dj := 31) (b := true) rfl rfl rfl (ev_hit hN18 rfl) rfl rfl ?_
        refine op_pick_f (ev_hit hN18 rfl) rfl ?_
        refine op_assign (ev_hit hN18 rfl) ?_
        refine reg_nil ?_
        refine hK29 _ _ ?_
        refine wp_ret ?_
        refine ret1 rfl hd18 (ev_hit hN18 rfl) ⟨_, rfl, ?_⟩
        -- path 7F 16F 25F
        exact ⟨hb, congrArg Value.bool (by rw [mayV, if_neg c7, all_whole (by omega) hall]; simp [*]; try omega)⟩

end Go.Proofs.Ytkkongnmcfdioaa
