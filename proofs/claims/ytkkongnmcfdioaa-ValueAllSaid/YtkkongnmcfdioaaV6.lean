/- Walks, written by a program: what each function of the translation hands back. -/
import Derived.Test.YtkkongnmcfdioaaV5
namespace Go.Proofs.Ytkkongnmcfdioaa
open Go.Gx Go.RowKit
attribute [local irreducible] wpList Code.wp Calls

theorem MayValue_ret (x : Vl) (w : World) (hs : x.s.length ≤ 9223372036854775807) : Ret Try.prog 32 #[(Value.agg #[(Value.int .i64 x.k), (Value.int .i64 x.n), (Value.string (bs x.s))])] w (fun v' w' => Below w.heap.size w w' ∧ v' = .bool (mayV x)) := by
  have hb := Below.refl w.heap.size w
  refine enter (N := 43) Try.func32 rfl rfl (by simp) fun a0 hN hd hA => ?_
  have s0 : a0.tmps.getD 0 undef = (Value.agg #[(Value.int .i64 x.k), (Value.int .i64 x.n), (Value.string (bs x.s))]) := hA 0 (by simp)
  clear hA
  refine seq_any fun K322 hK322 => ?_
  refine one_reg ?_
  refine op_box (cs := [(Value.int .i64 x.k), (Value.int .i64 x.n), (Value.string (bs x.s))]) (ev_base hN rfl s0) rfl ?_
  intro w323 b324 lo_b324 hi_b324 hB326 E325
  have z_w323 := E325.size
  have hb := below_step0 hb E325 hb.size
  refine op_assign rfl ?_
  refine reg_nil ?_
  refine hK322 _ _ ?_
  refine seq_any fun K327 hK327 => ?_
  refine seq_any fun K328 hK328 => ?_
  refine one_reg ?_
  refine op_field fld50_0 (ev_hit hN rfl) ?_
  refine op_load1 (v := (Value.int .i64 x.k)) one3 (ev_hit hN rfl) (hB326.cell rfl) ?_
  refine op_eql (ev_hit hN rfl) rfl (fun c6 => ?_) (fun c6 => ?_)
  · -- 6 True
    refine reg_nil ?_
    refine hK328 _ _ ?_
    refine wp_cond_true (ev_hit hN rfl) ?_
    refine seq_any fun K329 hK329 => ?_
    refine one_reg ?_
    refine op_field fld50_2 (ev_hit hN rfl) ?_
    refine op_load1 (v := (Value.string (bs x.s))) one9 (ev_hit hN rfl) (hB326.cell rfl) ?_
    refine op_seql (ev_hit hN rfl) rfl (fun c9 => ?_) (fun c9 => ?_)
    · -- 9 True
      refine op_assign (ev_hit hN rfl) ?_
      refine reg_nil ?_
      refine hK329 _ _ ?_
      refine wp_ret (then_ret ( ?_))
      refine ret1 rfl hd (ev_hit hN rfl) ⟨_, rfl, ?_⟩
      -- path 6T 9T
      exact ⟨hb, congrArg Value.bool (by simp [mayV, *])⟩
    · -- 9 False
      refine op_assign (ev_hit hN rfl) ?_
      refine reg_nil ?_
      refine hK329 _ _ ?_
      refine wp_ret (then_ret ( ?_))
      refine ret1 rfl hd (ev_hit hN rfl) ⟨_, rfl, ?_⟩
      -- path 6T 9F
      exact ⟨hb, congrArg Value.bool (by simp [mayV, *])⟩
  · -- 6 False
    refine reg_nil ?_
    refine hK328 _ _ ?_
    refine wp_cond_false (ev_hit hN rfl) ?_
    refine wp_skip ?_
    refine hK327 _ _ ?_
    refine seq_any fun K330 hK330 => ?_
    refine seq_any fun K331 hK331 => ?_
    refine one_reg ?_
    refine op_field fld50_0 (ev_hit hN rfl) ?_
    refine op_load1 (v := (Value.int .i64 x.k)) one3 (ev_hit hN rfl) (hB326.cell rfl) ?_
    refine op_neq (ev_hit hN rfl) rfl (fun c12 => ?_) (fun c12 => ?_)
    · -- 12 True
      refine op_move (ev_hit hN rfl) ?_
      refine g_false (j := 3) (dj := 13) (b := false) rfl rfl rfl (ev_hit hN rfl) rfl rfl ?_
      refine g_false (j := 3) (dj := 13) (b := false) rfl rfl rfl (ev_hit hN rfl) rfl rfl ?_
      refine g_false (j := 3) (dj := 13) (b := false) rfl rfl rfl (ev_hit hN rfl) rfl rfl ?_
      refine op_pick_t (ev_hit hN rfl) rfl ?_
      refine op_move (ev_hit hN rfl) ?_
      refine g_false (j := 8) (dj := 18) (b := false) rfl rfl rfl (ev_hit hN rfl) rfl rfl ?_
      refine g_false (j := 8) (dj := 18) (b := false) rfl rfl rfl (ev_hit hN rfl) rfl rfl ?_
      refine g_false (j := 8) (dj := 18) (b := false) rfl rfl rfl (ev_hit hN rfl) rfl rfl ?_
      refine g_false (j := 8) (dj := 18) (b := false) rfl rfl rfl (ev_hit hN rfl) rfl rfl ?_
      refine op_pick_t (ev_hit hN rfl) rfl ?_
      refine reg_nil ?_
      refine hK331 _ _ ?_
      refine wp_cond_true (ev_hit hN rfl) ?_
      refine seq_any fun K332 hK332 => ?_
      refine one_reg ?_
      refine op_assign rfl ?_
      refine reg_nil ?_
      refine hK332 _ _ ?_
      refine wp_ret (then_ret ( ?_))
      refine ret1 rfl hd (ev_hit hN rfl) ⟨_, rfl, ?_⟩
      -- path 6F 12T
      exact ⟨hb, congrArg Value.bool (by rw [mayV, if_neg c6]; simp; omega)⟩
    · -- 12 False
      refine op_move (ev_hit hN rfl) ?_
      refine g_true (j := 3) (dj := 13) (b := false) rfl rfl rfl (ev_hit hN rfl) ?_
      refine op_field fld50_1 (ev_hit hN rfl) ?_
      refine g_true (j := 3) (dj := 13) (b := false) rfl rfl rfl (ev_hit hN rfl) ?_
      refine op_load1 (v := (Value.int .i64 x.n)) one2 (ev_hit hN rfl) (hB326.cell rfl) ?_
      refine g_true (j := 3) (dj := 13) (b := false) rfl rfl rfl (ev_hit hN rfl) ?_
      refine op_neq (ev_hit hN rfl) rfl (fun c16 => ?_) (fun c16 => ?_)
      · -- 16 True
        refine op_pick_f (ev_hit hN rfl) (ev_hit hN rfl) ?_
        refine op_move (ev_hit hN rfl) ?_
        refine g_false (j := 8) (dj := 18) (b := false) rfl rfl rfl (ev_hit hN rfl) rfl rfl ?_
        refine g_false (j := 8) (dj := 18) (b := false) rfl rfl rfl (ev_hit hN rfl) rfl rfl ?_
        refine g_false (j := 8) (dj := 18) (b := false) rfl rfl rfl (ev_hit hN rfl) rfl rfl ?_
        refine g_false (j := 8) (dj := 18) (b := false) rfl rfl rfl (ev_hit hN rfl) rfl rfl ?_
        refine op_pick_t (ev_hit hN rfl) rfl ?_
        refine reg_nil ?_
        refine hK331 _ _ ?_
        refine wp_cond_true (ev_hit hN rfl) ?_
        refine seq_any fun K333 hK333 => ?_
        refine one_reg ?_
        refine op_assign rfl ?_
        refine reg_nil ?_
        refine hK333 _ _ ?_
        refine wp_ret (then_ret ( ?_))
        refine ret1 rfl hd (ev_hit hN rfl) ⟨_, rfl, ?_⟩
        -- path 6F 12F 16T
        exact ⟨hb, congrArg Value.bool (by rw [mayV, if_neg c6]; simp; omega)⟩
      · -- 16 False
        refine op_pick_f (ev_hit hN rfl) (ev_hit hN rfl) ?_
        refine op_move (ev_hit hN rfl) ?_
        refine g_true (j := 8) (dj := 18) (b := false) rfl rfl rfl (ev_hit hN rfl) ?_
        refine op_field fld50_2 (ev_hit hN rfl) ?_
        refine g_true (j := 8) (dj := 18) (b := false) rfl rfl rfl (ev_hit hN rfl) ?_
        refine op_load1 (v := (Value.string (bs x.s))) one9 (ev_hit hN rfl) (hB326.cell rfl) ?_
        refine g_true (j := 8) (dj := 18) (b := false) rfl rfl rfl (ev_hit hN rfl) ?_
        refine op_len_str Try.underlying9 (ev_hit hN rfl) ?_
        refine g_true (j := 8) (dj := 18) (b := false) rfl rfl rfl (ev_hit hN rfl) ?_
        refine op_gtr (ev_hit hN rfl) rfl (fun c22 => ?_) (fun c22 => ?_)
        · -- 22 True
          refine op_pick_f (ev_hit hN rfl) (ev_hit hN rfl) ?_
          refine reg_nil ?_
          refine hK331 _ _ ?_
          refine wp_cond_true (ev_hit hN rfl) ?_
          refine seq_any fun K334 hK334 => ?_
          refine one_reg ?_
          refine op_assign rfl ?_
          refine reg_nil ?_
          refine hK334 _ _ ?_
          refine wp_ret (then_ret ( ?_))
          refine ret1 rfl hd (ev_hit hN rfl) ⟨_, rfl, ?_⟩
          -- path 6F 12F 16F 22T
          exact ⟨hb, congrArg Value.bool (by rw [mayV, if_neg c6]; simp; omega)⟩
        · -- 22 False
          refine op_pick_f (ev_hit hN rfl) (ev_hit hN rfl) ?_
          refine reg_nil ?_
          refine hK331 _ _ ?_
          refine wp_cond_false (ev_hit hN rfl) ?_
          refine wp_skip ?_
          refine hK330 _ _ ?_
          refine seq_any fun K335 hK335 => ?_
          refine seq_any fun K336 hK336 => ?_
          refine one_reg ?_
          refine op_assign rfl ?_
          refine reg_nil ?_
          refine hK336 _ _ ?_
          refine wp_block ?_
          refine loop_m (fun m a w' => ∃ (i : Nat), m = x.s.length - i ∧ (a.tmps.getD 0 undef = (Value.agg #[(Value.int .i64 x.k), (Value.int .i64 x.n), (Value.string (bs x.s))])) ∧ (a.tmps.getD 1 undef = (ptr b324 0)) ∧ (a.tmps.getD 4 undef = (ptr b324 0)) ∧ (a.tmps.getD 5 undef = (Value.int .i64 x.k)) ∧ (a.tmps.getD 6 undef = (Value.bool false)) ∧ (a.tmps.getD 10 undef = (ptr b324 0)) ∧ (a.tmps.getD 11 undef = (Value.int .i64 x.k)) ∧ (a.tmps.getD 12 undef = (Value.bool false)) ∧ (a.tmps.getD 13 undef = (Value.bool false)) ∧ (a.tmps.getD 14 undef = (ptr b324 1)) ∧ (a.tmps.getD 15 undef = (Value.int .i64 x.n)) ∧ (a.tmps.getD 16 undef = (Value.bool false)) ∧ (a.tmps.getD 17 undef = (Value.bool false)) ∧ (a.tmps.getD 18 undef = (Value.bool false)) ∧ (a.tmps.getD 19 undef = (ptr b324 2)) ∧ (a.tmps.getD 20 undef = (Value.string (bs x.s))) ∧ (a.tmps.getD 21 undef = (Value.int .i64 (x.s.length : Int))) ∧ (a.tmps.getD 22 undef = (Value.bool false)) ∧ (a.tmps.getD 23 undef = (Value.bool false)) ∧ (a.tmps.getD 3 undef = (Value.int .i64 ((i : Nat) : Int))) ∧ (i ≤ x.s.length) ∧ ((x.s.take i).all okB = true) ∧ w323 = w') _ hN hd ⟨0, rfl, (sl_base hN rfl s0), (sl_hit hN rfl), (sl_hit hN rfl), (sl_hit hN rfl), (sl_hit hN rfl), (sl_hit hN rfl), (sl_hit hN rfl), (sl_hit hN rfl), (sl_hit hN rfl), (sl_hit hN rfl), (sl_hit hN rfl), (sl_hit hN rfl), (sl_hit hN rfl), (sl_hit hN rfl), (sl_hit hN rfl), (sl_hit hN rfl), (sl_hit hN rfl), (sl_hit hN rfl), (sl_hit hN rfl), (sl_hit hN rfl), Nat.zero_le _, (by simp), rfl⟩ ?_
          rintro _ a337 _ hN337 hd337 ⟨i, rfl, s337_0, s337_1, s337_4, s337_5, s337_6, s337_10, s337_11, s337_12, s337_13, s337_14, s337_15, s337_16, s337_17, s337_18, s337_19, s337_20, s337_21, s337_22, s337_23, s337_3, hi, hall, rfl⟩
          refine seq_any fun K338 hK338 => ?_
          refine seq_any fun K339 hK339 => ?_
          refine one_reg ?_
          refine op_move (ev_base hN337 rfl s337_3) ?_
          refine op_field fld50_2 (ev_base hN337 rfl s337_1) ?_
          refine op_load1 (v := (Value.string (bs x.s))) one9 (ev_hit hN337 rfl) (hB326.cell rfl) ?_
          refine op_len_str Try.underlying9 (ev_hit hN337 rfl) ?_
          refine op_lss (ev_hit hN337 rfl) (ev_hit hN337 rfl) (fun c28 => ?_) (fun c28 => ?_)
          · -- 28 True
            refine reg_nil ?_
            refine hK339 _ _ ?_
            refine wp_cond_true (ev_hit hN337 rfl) ?_
            refine wp_skip ?_
            refine hK338 _ _ ?_
            refine seq_any fun K340 hK340 => ?_
            refine wp_block ?_
            refine seq_any fun K341 hK341 => ?_
            refine one_reg ?_
            refine op_field fld50_2 (ev_base hN337 rfl s337_1) ?_
            refine op_load1 (v := (Value.string (bs x.s))) one9 (ev_hit hN337 rfl) (hB326.cell rfl) ?_
            refine op_move (ev_base hN337 rfl s337_3) ?_
            refine op_index_str (b := (x.s.getD i 0)) Try.underlying9 (ev_hit hN337 rfl) (ev_hit hN337 rfl) (by omega) (el_str (i := i) (by omega) (by omega)) ?_
            refine op_lss (ev_hit hN337 rfl) rfl (fun c35 => ?_) (fun c35 => ?_)
            · -- 35 True
              refine op_move (ev_hit hN337 rfl) ?_
              refine g_false (j := 5) (dj := 36) (b := false) rfl rfl rfl (ev_hit hN337 rfl) rfl rfl ?_
              refine g_false (j := 5) (dj := 36) (b := false) rfl rfl rfl (ev_hit hN337 rfl) rfl rfl ?_
              refine g_false (j := 5) (dj := 36) (b := false) rfl rfl rfl (ev_hit hN337 rfl) rfl rfl ?_
              refine g_false (j := 5) (dj := 36) (b := false) rfl rfl rfl (ev_hit hN337 rfl) rfl rfl ?_
              refine g_false (j := 5) (dj := 36) (b := false) rfl rfl rfl (ev_hit hN337 rfl) rfl rfl ?_
              refine op_pick_t (ev_hit hN337 rfl) rfl ?_
              refine reg_nil ?_
              refine hK341 _ _ ?_
              refine wp_cond_true (ev_hit hN337 rfl) ?_
              refine seq_any fun K342 hK342 => ?_
              refine one_reg ?_
              refine op_assign rfl ?_
              refine reg_nil ?_
              refine hK342 _ _ ?_
              refine wp_ret (blk_ret (then_ret (then_ret (blk_ret (then_ret ( ?_))))))
              refine ret1 rfl hd337 (ev_hit hN337 rfl) ⟨_, rfl, ?_⟩
              -- path 6F 12F 16F 22F 28T 35T
              exact ⟨hb, congrArg Value.bool (by rw [mayV, if_neg c6, all_bad (i := i) (by omega) (okB_f (by omega))]; rfl)⟩
            · -- 35 False
              refine op_move (ev_hit hN337 rfl) ?_
              refine g_true (j := 5) (dj := 36) (b := false) rfl rfl rfl (ev_hit hN337 rfl) ?_
              refine op_field fld50_2 (ev_base hN337 rfl s337_1) ?_
              refine g_true (j := 5) (dj := 36) (b := false) rfl rfl rfl (ev_hit hN337 rfl) ?_
              refine op_load1 (v := (Value.string (bs x.s))) one9 (ev_hit hN337 rfl) (hB326.cell rfl) ?_
              refine g_true (j := 5) (dj := 36) (b := false) rfl rfl rfl (ev_hit hN337 rfl) ?_
              refine op_move (ev_base hN337 rfl s337_3) ?_
              refine g_true (j := 5) (dj := 36) (b := false) rfl rfl rfl (ev_hit hN337 rfl) ?_
              refine op_index_str (b := (x.s.getD i 0)) Try.underlying9 (ev_hit hN337 rfl) (ev_hit hN337 rfl) (by omega) (el_str (i := i) (by omega) (by omega)) ?_
              refine g_true (j := 5) (dj := 36) (b := false) rfl rfl rfl (ev_hit hN337 rfl) ?_
              refine op_gtr (ev_hit hN337 rfl) rfl (fun c41 => ?_) (fun c41 => ?_)
              · -- 41 True
                refine op_pick_f (ev_hit hN337 rfl) (ev_hit hN337 rfl) ?_
                refine reg_nil ?_
                refine hK341 _ _ ?_
                refine wp_cond_true (ev_hit hN337 rfl) ?_
                refine seq_any fun K343 hK343 => ?_
                refine one_reg ?_
                refine op_assign rfl ?_
                refine reg_nil ?_
                refine hK343 _ _ ?_
                refine wp_ret (blk_ret (then_ret (then_ret (blk_ret (then_ret ( ?_))))))
                refine ret1 rfl hd337 (ev_hit hN337 rfl) ⟨_, rfl, ?_⟩
                -- path 6F 12F 16F 22F 28T 35F 41T
                exact ⟨hb, congrArg Value.bool (by rw [mayV, if_neg c6, all_bad (i := i) (by omega) (okB_f (by omega))]; rfl)⟩
              · -- 41 False
                refine op_pick_f (ev_hit hN337 rfl) (ev_hit hN337 rfl) ?_
                refine reg_nil ?_
                refine hK341 _ _ ?_
                refine wp_cond_false (ev_hit hN337 rfl) ?_
                refine wp_skip ?_
                refine hK340 _ _ ?_
                refine one_reg ?_
                refine op_move (ev_base hN337 rfl s337_3) ?_
                refine op_add (ev_hit hN337 rfl) rfl (add64 (by omega)) ?_
                refine op_assign (ev_hit hN337 rfl) ?_
                refine reg_nil ?_
                -- round 6F 12F 16F 22F 28T 35F 41F
                exact loop_next _ hN337 hd337 ⟨i + 1, rfl, (sl_base hN337 rfl s337_0), (sl_base hN337 rfl s337_1), (sl_base hN337 rfl s337_4), (sl_base hN337 rfl s337_5), (sl_base hN337 rfl s337_6), (sl_base hN337 rfl s337_10), (sl_base hN337 rfl s337_11), (sl_base hN337 rfl s337_12), (sl_base hN337 rfl s337_13), (sl_base hN337 rfl s337_14), (sl_base hN337 rfl s337_15), (sl_base hN337 rfl s337_16), (sl_base hN337 rfl s337_17), (sl_base hN337 rfl s337_18), (sl_base hN337 rfl s337_19), (sl_base hN337 rfl s337_20), (sl_base hN337 rfl s337_21), (sl_base hN337 rfl s337_22), (sl_base hN337 rfl s337_23), (sl_hit hN337 rfl).trans (congrArg (Value.int .i64) (by omega)), (by omega), (all_snoc (by omega) hall (okB_t (by omega))), rfl⟩ (by omega)
          · -- 28 False
            refine reg_nil ?_
            refine hK339 _ _ ?_
            refine wp_cond_false (ev_hit hN337 rfl) ?_
            refine wp_exit (then_exit (then_exit (blk_hit ?_)))
            refine hK335 _ _ ?_
            refine seq_any fun K344 hK344 => ?_
            refine one_reg ?_
            refine op_assign rfl ?_
            refine reg_nil ?_
            refine hK344 _ _ ?_
            refine wp_ret ?_
            refine ret1 rfl hd337 (ev_hit hN337 rfl) ⟨_, rfl, ?_⟩
            -- path 6F 12F 16F 22F 28F
            exact ⟨hb, congrArg Value.bool (by rw [mayV, if_neg c6, all_whole (by omega) hall]; simp; omega)⟩

theorem text_ret (bl : List UInt8) (v : Value) (w : World) (hl : bl.length ≤ 1000000000000) (hv : RdC w 0 w.heap.size 1 v bl.length (bl.map u8v)) : Ret Try.prog 72 #[v] w (fun v' w' => Below w.heap.size w w' ∧ v' = (Value.tuple #[(Value.agg #[(Value.int .i64 (textR bl).1.k), (Value.int .i64 (textR bl).1.n), (Value.string (bs (textR bl).1.s))]), (Value.int .i64 (textR bl).2.1), (Value.int .i64 (textR bl).2.2)])) := by
  have hb := Below.refl w.heap.size w
  refine enter (N := 33) Try.func72 rfl rfl (by simp) fun a0 hN hd hA => ?_
  have s0 : a0.tmps.getD 0 undef = v := hA 0 (by simp)
  clear hA
  refine seq_any fun K345 hK345 => ?_
  refine one_reg ?_
  refine op_alloc (cs := [(Value.int .i64 0), (Value.int .i64 0), (Value.string (bs []))]) zero50 rfl ?_
  intro w346 b347 lo_b347 hi_b347 hB349 E348
  have z_w346 := E348.size
  have hv := hv.keep0 E348
  have hb := below_step0 hb E348 hb.size
  refine op_assign rfl ?_
  refine op_assign rfl ?_
  refine reg_nil ?_
  refine hK345 _ _ ?_
  refine seq_any fun K350 hK350 => ?_
  refine seq_any fun K351 hK351 => ?_
  refine one_reg ?_
  refine op_move (ev_base hN rfl s0) ?_
  refine op_len_rd Try.underlying22 (ev_hit hN rfl) hv ?_
  refine op_move rfl ?_
  refine reg_nil ?_
  refine hK351 _ _ ?_
  refine wp_block ?_
  refine loop_m (fun m a w' => ∃ (i : Nat), m = bl.length - i ∧ (a.tmps.getD 0 undef = v) ∧ (a.tmps.getD 2 undef = (ptr b347 0)) ∧ (a.tmps.getD 7 undef = v) ∧ (a.tmps.getD 8 undef = (Value.int .i64 ((bl.length : Nat) : Int))) ∧ (a.tmps.getD 9 undef = (Value.int .i64 ((i : Nat) : Int))) ∧ (i ≤ bl.length) ∧ (scanT bl 0 = scanT (bl.drop i) i) ∧ w346 = w') _ hN hd ⟨0, rfl, (sl_base hN rfl s0), (sl_hit hN rfl), (sl_hit hN rfl), (sl_hit hN rfl), (sl_hit hN rfl), Nat.zero_le _, rfl, rfl⟩ ?_
  rintro _ a352 _ hN352 hd352 ⟨i, rfl, s352_0, s352_2, s352_7, s352_8, s352_9, hi, he, rfl⟩
  refine seq_any fun K353 hK353 => ?_
  refine one_reg ?_
  refine op_lss (ev_base hN352 rfl s352_9) (ev_base hN352 rfl s352_8) (fun c10 => ?_) (fun c10 => ?_)
  · -- 10 True
    refine reg_nil ?_
    refine hK353 _ _ ?_
    refine seq_any fun K354 hK354 => ?_
    refine wp_cond_true (ev_hit hN352 rfl) ?_
    refine wp_skip ?_
    refine hK354 _ _ ?_
    refine seq_any fun K355 hK355 => ?_
    refine wp_block ?_
    refine seq_any fun K356 hK356 => ?_
    refine one_reg ?_
    refine op_move (ev_base hN352 rfl s352_9) ?_
    refine op_index_rd slt22 (ev_base hN352 rfl s352_7) hv (ev_base hN352 rfl s352_9) (by omega) (by omega) ?_
    intro b357 o358 _ _ hc359
    refine op_load1 (v := (Value.int .u8 ((bl.getD i 0).toNat : Int))) one5 (ev_hit hN352 rfl) (by have := hc359 0 (Value.int .u8 ((bl.getD i 0).toNat : Int)) (by decide) (el_u8 (i := i) (by omega) (by omega)); simpa using this) ?_
    refine op_assign (ev_hit hN352 rfl) ?_
    refine op_assign (ev_hit hN352 rfl) ?_
    refine reg_nil ?_
    refine hK356 _ _ ?_
    refine wp_block ?_
    refine seq_any fun K360 hK360 => ?_
    refine one_reg ?_
    refine op_move (ev_hit hN352 rfl) ?_
    refine op_eql (ev_hit hN352 rfl) rfl (fun c16 => ?_) (fun c16 => ?_)
    · -- 16 True
      refine op_assign (ev_hit hN352 rfl) ?_
      refine reg_nil ?_
      refine hK360 _ _ ?_
      refine wp_cond_true (ev_hit hN352 rfl) ?_
      refine seq_any fun K361 hK361 => ?_
      refine one_reg ?_
      refine op_move (ev_base hN352 rfl s352_0) ?_
      refine op_move (ev_hit hN352 rfl) ?_
      refine op_slice_rd (lo := 0) (hi := i) slt22 (ev_hit hN352 rfl) hv (.inl ⟨rfl, rfl⟩) (.inr ⟨_, _, rfl, (ev_hit hN352 rfl)⟩) (by omega) (by omega) ?_
      intro v362 hR363
      have hR363 : RdC w346 0 w.heap.size 1 v362 i (((bl.take i)).map u8v) := by simpa [List.map_drop, List.map_take] using hR363
      refine op_str_of (bl := (bl.take i)) Try.underlying22 Try.underlying5 Try.underlying9 (ev_hit hN352 rfl) hR363 ?_
      refine op_build (pv := [(0, (Value.int .i64 2)), (2, (Value.string (bs (bl.take i))))]) (v := (Value.agg #[(Value.int .i64 2), (Value.int .i64 0), (Value.string (bs (bl.take i)))])) ⟨rfl, rfl, ⟨rfl, (ev_hit hN352 rfl), trivial⟩⟩ (by kernel_rfl) ?_
      refine op_move (ev_hit hN352 rfl) ?_
      refine op_add (ev_hit hN352 rfl) rfl (add64 (by omega)) ?_
      have hB349_old := hB349
      refine op_store (vs := [(Value.int .i64 2), (Value.int .i64 0), (Value.string (bs (bl.take i)))]) (cs' := [(Value.int .i64 2), (Value.int .i64 0), (Value.string (bs (bl.take i)))]) size50 (ev_base hN352 rfl s352_2) (ev_hit hN352 rfl) rfl rfl rfl hB349 (Nat.le_of_ble_eq_true rfl) rfl ?_
      intro w366 hB349 E367
      have z_w366 := E367.size
      have hv := hv.keep E367 (fun k hk => .inr (by simp at hk; omega))
      have hR363 := hR363.keep E367 (fun k hk => .inr (by simp at hk; omega))
      have hb := below_step1 hb E367 hb.size (by omega)
      refine op_assign (ev_hit hN352 rfl) ?_
      refine op_assign rfl ?_
      refine reg_nil ?_
      refine hK361 _ _ ?_
      refine wp_ret (blk_ret (blk_ret (then_ret (then_ret (blk_ret (then_ret ( ?_)))))))
      refine retN (rs := [.cell 2 50, .tmp 3, .tmp 4]) (vs := [(Value.agg #[(Value.int .i64 2), (Value.int .i64 0), (Value.string (bs (bl.take i)))]), (Value.int .i64 (((i : Nat) : Int) + 2)), (Value.int .i64 0)]) rfl hd352 ⟨⟨_, (ev_base hN352 rfl s352_2), run_loadA (cs := [(Value.int .i64 2), (Value.int .i64 0), (Value.string (bs (bl.take i)))]) agg50 rfl (fun j u hu => by rw [Nat.zero_add]; exact hB349.cell hu)⟩, ⟨(ev_hit hN352 rfl), ⟨(ev_hit hN352 rfl), trivial⟩⟩⟩ rfl ⟨_, rfl, ?_⟩
      -- path 10T 16T
      have hq : textR bl = (⟨2, 0, bl.take i⟩, (i : Int) + 2, 0) := textR_of (q := .inr i) (by rw [he, scan_step (by omega), if_pos (by omega)])
      rw [hq]
      exact ⟨hb, rfl⟩
    · -- 16 False
      refine op_assign (ev_hit hN352 rfl) ?_
      refine reg_nil ?_
      refine hK360 _ _ ?_
      refine wp_cond_false (ev_hit hN352 rfl) ?_
      refine seq_any fun K368 hK368 => ?_
      refine seq_any fun K369 hK369 => ?_
      refine one_reg ?_
      refine op_move (ev_hit hN352 rfl) ?_
      refine op_eql (ev_hit hN352 rfl) rfl (fun c26 => ?_) (fun c26 => ?_)
      · -- 26 True
        refine op_assign (ev_hit hN352 rfl) ?_
        refine reg_nil ?_
        refine hK369 _ _ ?_
        refine wp_cond_true (ev_hit hN352 rfl) ?_
        refine wp_skip ?_
        refine hK368 _ _ ?_
        refine wp_cond_true (ev_hit hN352 rfl) ?_
        refine seq_any fun K370 hK370 => ?_
        refine one_reg ?_
        refine op_loadA (cs := [(Value.int .i64 0), (Value.int .i64 0), (Value.string (bs []))]) agg50 rfl (ev_base hN352 rfl s352_2) (fun j u hu => by rw [Nat.zero_add]; exact hB349.cell hu) ?_
        have hB349_old := hB349
        refine op_store (vs := [(Value.int .i64 0), (Value.int .i64 0), (Value.string (bs []))]) (cs' := [(Value.int .i64 0), (Value.int .i64 0), (Value.string (bs []))]) size50 (ev_base hN352 rfl s352_2) (ev_hit hN352 rfl) rfl rfl rfl hB349 (Nat.le_of_ble_eq_true rfl) rfl ?_
        intro w373 hB349 E374
        have z_w373 := E374.size
        have hv := hv.keep E374 (fun k hk => .inr (by simp at hk; omega))
        have hb := below_step1 hb E374 hb.size (by omega)
        refine op_assign rfl ?_
        refine op_assign rfl ?_
        refine reg_nil ?_
        refine hK370 _ _ ?_
        refine wp_ret (blk_ret (blk_ret (then_ret (then_ret (blk_ret (then_ret ( ?_)))))))
        refine retN (rs := [.cell 2 50, .tmp 3, .tmp 4]) (vs := [(Value.agg #[(Value.int .i64 0), (Value.int .i64 0), (Value.string (bs []))]), (Value.int .i64 0), (Value.int .i64 3)]) rfl hd352 ⟨⟨_, (ev_base hN352 rfl s352_2), run_loadA (cs := [(Value.int .i64 0), (Value.int .i64 0), (Value.string (bs []))]) agg50 rfl (fun j u hu => by rw [Nat.zero_add]; exact hB349.cell hu)⟩, ⟨(ev_hit hN352 rfl), ⟨(ev_hit hN352 rfl), trivial⟩⟩⟩ rfl ⟨_, rfl, ?_⟩
        -- path 10T 16F 26T
        have hq : textR bl = (V0, 0, 3) := textR_of (q := .inl 3) (by rw [he, scan_step (by omega), if_neg (by omega), if_pos (.inl (by omega))])
        rw [hq]
        exact ⟨hb, rfl⟩
      · -- 26 False
        refine op_assign (ev_hit hN352 rfl) ?_
        refine reg_nil ?_
        refine hK369 _ _ ?_
        refine wp_cond_false (ev_hit hN352 rfl) ?_
        refine one_reg ?_
        refine op_move (ev_hit hN352 rfl) ?_
        refine op_fn (vs := [(Value.int .u8 ((bl.getD i 0).toNat : Int))]) ok67 ⟨(ev_hit hN352 rfl), trivial⟩ (may_ret (bl.getD i 0) _) ?_
        rintro _ _ ⟨rfl, rfl⟩
        rcases Bool.eq_false_or_eq_true ((okB (bl.getD i 0))) with c28 | c28
        · -- 28 True
          rw [c28]
          refine op_not (ev_hit hN352 rfl) ?_
          refine op_assign (ev_hit hN352 rfl) ?_
          refine reg_nil ?_
          refine hK368 _ _ ?_
          refine wp_cond_false (ev_hit hN352 rfl) ?_
          refine wp_skip ?_
          refine hK355 _ _ ?_
          refine one_reg ?_
          refine op_add (ev_base hN352 rfl s352_9) rfl (add64 (by omega)) ?_
          refine op_move (ev_hit hN352 rfl) ?_
          refine reg_nil ?_
          -- round 10T 16F 26F 28T
          exact loop_next _ hN352 hd352 ⟨i + 1, rfl, (sl_base hN352 rfl s352_0), (sl_base hN352 rfl s352_2), (sl_base hN352 rfl s352_7), (sl_base hN352 rfl s352_8), (sl_hit hN352 rfl).trans (congrArg (Value.int .i64) (by omega)), (by omega), (by rw [he, scan_step (by omega), if_neg (by omega), if_neg (fun h => h.elim (fun h => by omega) (fun h => by rw [c28] at h; cases h))]), rfl⟩ (by omega)
        · -- 28 False
          rw [c28]
          refine op_not (ev_hit hN352 rfl) ?_
          refine op_assign (ev_hit hN352 rfl) ?_
          refine reg_nil ?_
          refine hK368 _ _ ?_
          refine wp_cond_true (ev_hit hN352 rfl) ?_
          refine seq_any fun K375 hK375 => ?_
          refine one_reg ?_
          refine op_loadA (cs := [(Value.int .i64 0), (Value.int .i64 0), (Value.string (bs []))]) agg50 rfl (ev_base hN352 rfl s352_2) (fun j u hu => by rw [Nat.zero_add]; exact hB349.cell hu) ?_
          have hB349_old := hB349
          refine op_store (vs := [(Value.int .i64 0), (Value.int .i64 0), (Value.string (bs []))]) (cs' := [(Value.int .i64 0), (Value.int .i64 0), (Value.string (bs []))]) size50 (ev_base hN352 rfl s352_2) (ev_hit hN352 rfl) rfl rfl rfl hB349 (Nat.le_of_ble_eq_true rfl) rfl ?_
          intro w378 hB349 E379
          have z_w378 := E379.size
          have hv := hv.keep E379 (fun k hk => .inr (by simp at hk; omega))
          have hb := below_step1 hb E379 hb.size (by omega)
          refine op_assign rfl ?_
          refine op_assign rfl ?_
          refine reg_nil ?_
          refine hK375 _ _ ?_
          refine wp_ret (blk_ret (blk_ret (then_ret (then_ret (blk_ret (then_ret ( ?_)))))))
          refine retN (rs := [.cell 2 50, .tmp 3, .tmp 4]) (vs := [(Value.agg #[(Value.int .i64 0), (Value.int .i64 0), (Value.string (bs []))]), (Value.int .i64 0), (Value.int .i64 3)]) rfl hd352 ⟨⟨_, (ev_base hN352 rfl s352_2), run_loadA (cs := [(Value.int .i64 0), (Value.int .i64 0), (Value.string (bs []))]) agg50 rfl (fun j u hu => by rw [Nat.zero_add]; exact hB349.cell hu)⟩, ⟨(ev_hit hN352 rfl), ⟨(ev_hit hN352 rfl), trivial⟩⟩⟩ rfl ⟨_, rfl, ?_⟩
          -- path 10T 16F 26F 28F
          have hq : textR bl = (V0, 0, 3) := textR_of (q := .inl 3) (by rw [he, scan_step (by omega), if_neg (by omega), if_pos (.inr c28)])
          rw [hq]
          exact ⟨hb, rfl⟩
  · -- 10 False
    refine reg_nil ?_
    refine hK353 _ _ ?_
    refine seq_any fun K380 hK380 => ?_
    refine wp_cond_false (ev_hit hN352 rfl) ?_
    refine wp_exit (then_exit (then_exit (blk_hit ?_)))
    refine hK350 _ _ ?_
    refine seq_any fun K381 hK381 => ?_
    refine one_reg ?_
    refine op_loadA (cs := [(Value.int .i64 0), (Value.int .i64 0), (Value.string (bs []))]) agg50 rfl (ev_base hN352 rfl s352_2) (fun j u hu => by rw [Nat.zero_add]; exact hB349.cell hu) ?_
    have hB349_old := hB349
    refine op_store (vs := [(Value.int .i64 0), (Value.int .i64 0), (Value.string (bs []))]) (cs' := [(Value.int .i64 0), (Value.int .i64 0), (Value.string (bs []))]) size50 (ev_base hN352 rfl s352_2) (ev_hit hN352 rfl) rfl rfl rfl hB349 (Nat.le_of_ble_eq_true rfl) rfl ?_
    intro w384 hB349 E385
    have z_w384 := E385.size
    have hv := hv.keep E385 (fun k hk => .inr (by simp at hk; omega))
    have hb := below_step1 hb E385 hb.size (by omega)
    refine op_assign rfl ?_
    refine op_assign rfl ?_
    refine reg_nil ?_
    refine hK381 _ _ ?_
    refine wp_ret ?_
    refine retN (rs := [.cell 2 50, .tmp 3, .tmp 4]) (vs := [(Value.agg #[(Value.int .i64 0), (Value.int .i64 0), (Value.string (bs []))]), (Value.int .i64 0), (Value.int .i64 2)]) rfl hd352 ⟨⟨_, (ev_base hN352 rfl s352_2), run_loadA (cs := [(Value.int .i64 0), (Value.int .i64 0), (Value.string (bs []))]) agg50 rfl (fun j u hu => by rw [Nat.zero_add]; exact hB349.cell hu)⟩, ⟨(ev_hit hN352 rfl), ⟨(ev_hit hN352 rfl), trivial⟩⟩⟩ rfl ⟨_, rfl, ?_⟩
    -- path 10F
    have hq : textR bl = (V0, 0, 2) := textR_of (q := .inl 2) (by rw [he, scan_end (by omega)])
    rw [hq]
    exact ⟨hb, rfl⟩

end Go.Proofs.Ytkkongnmcfdioaa
