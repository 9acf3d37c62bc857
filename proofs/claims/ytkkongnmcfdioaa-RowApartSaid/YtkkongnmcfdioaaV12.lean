/- Walks, written by a program: what each function of the translation hands back. -/
import Derived.Test.YtkkongnmcfdioaaV11
namespace Go.Proofs.Ytkkongnmcfdioaa
open Go.Gx Go.RowKit
attribute [local irreducible] wpList Code.wp Calls

theorem ValueTexts_ret (s : List UInt8) (w : World) (hl : s.length ≤ 9223372036854775807) : Ret Try.prog 9 #[(Value.string (bs s))] w (fun v' w' => Below w.heap.size w w' ∧ v' = .bool true) := by
  have hb := Below.refl w.heap.size w
  refine enter (N := 96) Try.func9 rfl rfl (by simp) fun a0 hN hd hA => ?_
  have s0 : a0.tmps.getD 0 undef = (Value.string (bs s)) := hA 0 (by simp)
  clear hA
  refine seq_any fun K1 hK1 => ?_
  refine one_reg ?_
  refine op_assign rfl ?_
  refine reg_nil ?_
  refine hK1 _ _ ?_
  refine seq_any fun K2 hK2 => ?_
  refine seq_any fun K3 hK3 => ?_
  refine one_reg ?_
  refine op_fn (vs := []) ok30 trivial (begun4_ret _) ?_
  rintro _ w4 ⟨E5, rfl⟩
  have E5 := grown_of_below E5
  have z_w4 := E5.size
  have hb := below_step0 hb E5 hb.size
  refine op_not (ev_hit hN rfl) ?_
  refine reg_nil ?_
  refine hK3 _ _ ?_
  refine wp_cond_false (ev_hit hN rfl) ?_
  refine wp_skip ?_
  refine hK2 _ _ ?_
  refine seq_any fun K6 hK6 => ?_
  refine seq_any fun K7 hK7 => ?_
  refine one_reg ?_
  refine op_move (ev_base hN rfl s0) ?_
  refine op_len_str Try.underlying9 (ev_hit hN rfl) ?_
  refine op_gtr (ev_hit hN rfl) rfl (fun c16 => ?_) (fun c16 => ?_)
  · -- 16 True
    refine reg_nil ?_
    refine hK7 _ _ ?_
    refine wp_cond_true (ev_hit hN rfl) ?_
    refine seq_any fun K8 hK8 => ?_
    refine one_reg ?_
    refine op_assign rfl ?_
    refine reg_nil ?_
    refine hK8 _ _ ?_
    refine wp_ret (then_ret ( ?_))
    refine ret1 rfl hd (ev_hit hN rfl) ⟨_, rfl, ?_⟩
    -- path 16T
    exact ⟨hb, rfl⟩
  · -- 16 False
    refine reg_nil ?_
    refine hK7 _ _ ?_
    refine wp_cond_false (ev_hit hN rfl) ?_
    refine wp_skip ?_
    refine hK6 _ _ ?_
    refine seq_any fun K9 hK9 => ?_
    refine one_reg ?_
    refine op_move (ev_base hN rfl s0) ?_
    refine op_len_str Try.underlying9 (ev_hit hN rfl) ?_
    refine op_leq (ev_hit hN rfl) rfl (fun c19 => ?_) (fun c19 => ?_)
    · -- 19 True
      refine op_assign (ev_hit hN rfl) ?_
      refine reg_nil ?_
      refine hK9 _ _ ?_
      refine seq_any fun K10 hK10 => ?_
      refine seq_any fun K11 hK11 => ?_
      refine one_reg ?_
      refine op_assign rfl ?_
      refine reg_nil ?_
      refine hK11 _ _ ?_
      refine wp_block ?_
      refine loop_m (fun m a w' => ∃ (i : Nat), m = s.length - i ∧ (a.tmps.getD 0 undef = (Value.string (bs s))) ∧ (a.tmps.getD 2 undef = (Value.bool false)) ∧ (a.tmps.getD 12 undef = (Value.bool true)) ∧ (a.tmps.getD 13 undef = (Value.bool false)) ∧ (a.tmps.getD 14 undef = (Value.string (bs s))) ∧ (a.tmps.getD 15 undef = (Value.int .i64 (s.length : Int))) ∧ (a.tmps.getD 16 undef = (Value.bool false)) ∧ (a.tmps.getD 17 undef = (Value.string (bs s))) ∧ (a.tmps.getD 18 undef = (Value.int .i64 (s.length : Int))) ∧ (a.tmps.getD 19 undef = (Value.bool true)) ∧ (a.tmps.getD 4 undef = (Value.int .i64 ((i : Nat) : Int))) ∧ (a.tmps.getD 3 undef = (Value.bool (decide (s.length ≤ 30) && (s.take i).all okB))) ∧ (i ≤ s.length) ∧ w4 = w') _ hN hd ⟨0, rfl, (sl_base hN rfl s0), (sl_hit hN rfl), (sl_hit hN rfl), (sl_hit hN rfl), (sl_hit hN rfl), (sl_hit hN rfl), (sl_hit hN rfl), (sl_hit hN rfl), (sl_hit hN rfl), (sl_hit hN rfl), (sl_hit hN rfl), (sl_hit hN rfl).trans (congrArg Value.bool (by simp; omega)), Nat.zero_le _, rfl⟩ ?_
      rintro _ a12 _ hN12 hd12 ⟨i, rfl, s12_0, s12_2, s12_12, s12_13, s12_14, s12_15, s12_16, s12_17, s12_18, s12_19, s12_4, s12_3, hi, rfl⟩
      refine seq_any fun K13 hK13 => ?_
      refine seq_any fun K14 hK14 => ?_
      refine one_reg ?_
      refine op_move (ev_base hN12 rfl s12_4) ?_
      refine op_move (ev_base hN12 rfl s12_0) ?_
      refine op_len_str Try.underlying9 (ev_hit hN12 rfl) ?_
      refine op_lss (ev_hit hN12 rfl) (ev_hit hN12 rfl) (fun c23 => ?_) (fun c23 => ?_)
      · -- 23 True
        refine reg_nil ?_
        refine hK14 _ _ ?_
        refine wp_cond_true (ev_hit hN12 rfl) ?_
        refine wp_skip ?_
        refine hK13 _ _ ?_
        refine seq_any fun K15 hK15 => ?_
        refine wp_block ?_
        refine one_reg ?_
        refine op_move (ev_base hN12 rfl s12_3) ?_
        refine op_move (ev_hit hN12 rfl) ?_
        rcases Bool.eq_false_or_eq_true ((decide (s.length ≤ 30) && (s.take i).all okB)) with g27 | g27
        · -- 27 True
          rw [g27]
          refine g_true (j := 1) (dj := 27) (b := true) rfl rfl rfl (ev_hit hN12 rfl) ?_
          refine op_move (ev_base hN12 rfl s12_0) ?_
          refine g_true (j := 1) (dj := 27) (b := true) rfl rfl rfl (ev_hit hN12 rfl) ?_
          refine op_move (ev_base hN12 rfl s12_4) ?_
          refine g_true (j := 1) (dj := 27) (b := true) rfl rfl rfl (ev_hit hN12 rfl) ?_
          refine op_index_str (b := (s.getD i 0)) Try.underlying9 (ev_hit hN12 rfl) (ev_hit hN12 rfl) (by omega) (el_str (i := i) (by omega) (by omega)) ?_
          refine g_true (j := 1) (dj := 27) (b := true) rfl rfl rfl (ev_hit hN12 rfl) ?_
          refine op_geq (ev_hit hN12 rfl) rfl (fun c31 => ?_) (fun c31 => ?_)
          · -- 31 True
            refine op_pick_t (ev_hit hN12 rfl) (ev_hit hN12 rfl) ?_
            refine op_move (ev_hit hN12 rfl) ?_
            refine g_true (j := 7) (dj := 33) (b := true) rfl rfl rfl (ev_hit hN12 rfl) ?_
            refine op_move (ev_base hN12 rfl s12_0) ?_
            refine g_true (j := 7) (dj := 33) (b := true) rfl rfl rfl (ev_hit hN12 rfl) ?_
            refine op_move (ev_base hN12 rfl s12_4) ?_
            refine g_true (j := 7) (dj := 33) (b := true) rfl rfl rfl (ev_hit hN12 rfl) ?_
            refine op_index_str (b := (s.getD i 0)) Try.underlying9 (ev_hit hN12 rfl) (ev_hit hN12 rfl) (by omega) (el_str (i := i) (by omega) (by omega)) ?_
            refine g_true (j := 7) (dj := 33) (b := true) rfl rfl rfl (ev_hit hN12 rfl) ?_
            refine op_leq (ev_hit hN12 rfl) rfl (fun c37 => ?_) (fun c37 => ?_)
            · -- 37 True
              refine op_pick_t (ev_hit hN12 rfl) (ev_hit hN12 rfl) ?_
              refine op_assign (ev_hit hN12 rfl) ?_
              refine reg_nil ?_
              refine hK15 _ _ ?_
              refine one_reg ?_
              refine op_move (ev_base hN12 rfl s12_4) ?_
              refine op_add (ev_hit hN12 rfl) rfl (add64 (by omega)) ?_
              refine op_assign (ev_hit hN12 rfl) ?_
              refine reg_nil ?_
              -- round 16F 19T 23T 27T 31T 37T
              exact loop_next _ hN12 hd12 ⟨i + 1, rfl, (sl_base hN12 rfl s12_0), (sl_base hN12 rfl s12_2), (sl_base hN12 rfl s12_12), (sl_base hN12 rfl s12_13), (sl_base hN12 rfl s12_14), (sl_base hN12 rfl s12_15), (sl_base hN12 rfl s12_16), (sl_base hN12 rfl s12_17), (sl_base hN12 rfl s12_18), (sl_base hN12 rfl s12_19), (sl_hit hN12 rfl).trans (congrArg (Value.int .i64) (by omega)), (sl_hit hN12 rfl).trans (congrArg Value.bool ((vt_stepT (by omega) g27 (okB_t (by omega))).symm)), (by omega), rfl⟩ (by omega)
            · -- 37 False
              refine op_pick_t (ev_hit hN12 rfl) (ev_hit hN12 rfl) ?_
              refine op_assign (ev_hit hN12 rfl) ?_
              refine reg_nil ?_
              refine hK15 _ _ ?_
              refine one_reg ?_
              refine op_move (ev_base hN12 rfl s12_4) ?_
              refine op_add (ev_hit hN12 rfl) rfl (add64 (by omega)) ?_
              refine op_assign (ev_hit hN12 rfl) ?_
              refine reg_nil ?_
              -- round 16F 19T 23T 27T 31T 37F
              exact loop_next _ hN12 hd12 ⟨i + 1, rfl, (sl_base hN12 rfl s12_0), (sl_base hN12 rfl s12_2), (sl_base hN12 rfl s12_12), (sl_base hN12 rfl s12_13), (sl_base hN12 rfl s12_14), (sl_base hN12 rfl s12_15), (sl_base hN12 rfl s12_16), (sl_base hN12 rfl s12_17), (sl_base hN12 rfl s12_18), (sl_base hN12 rfl s12_19), (sl_hit hN12 rfl).trans (congrArg (Value.int .i64) (by omega)), (sl_hit hN12 rfl).trans (congrArg Value.bool ((vt_stepX (by omega) (okB_f (by omega))).symm)), (by omega), rfl⟩ (by omega)
          · -- 31 False
            refine op_pick_t (ev_hit hN12 rfl) (ev_hit hN12 rfl) ?_
            refine op_move (ev_hit hN12 rfl) ?_
            refine g_false (j := 7) (dj := 33) (b := true) rfl rfl rfl (ev_hit hN12 rfl) rfl rfl ?_
            refine g_false (j := 7) (dj := 33) (b := true) rfl rfl rfl (ev_hit hN12 rfl) rfl rfl ?_
            refine g_false (j := 7) (dj := 33) (b := true) rfl rfl rfl (ev_hit hN12 rfl) rfl rfl ?_
            refine g_false (j := 7) (dj := 33) (b := true) rfl rfl rfl (ev_hit hN12 rfl) rfl rfl ?_
            refine op_pick_f (ev_hit hN12 rfl) rfl ?_
            refine op_assign (ev_hit hN12 rfl) ?_
            refine reg_nil ?_
            refine hK15 _ _ ?_
            refine one_reg ?_
            refine op_move (ev_base hN12 rfl s12_4) ?_
            refine op_add (ev_hit hN12 rfl) rfl (add64 (by omega)) ?_
            refine op_assign (ev_hit hN12 rfl) ?_
            refine reg_nil ?_
            -- round 16F 19T 23T 27T 31F
            exact loop_next _ hN12 hd12 ⟨i + 1, rfl, (sl_base hN12 rfl s12_0), (sl_base hN12 rfl s12_2), (sl_base hN12 rfl s12_12), (sl_base hN12 rfl s12_13), (sl_base hN12 rfl s12_14), (sl_base hN12 rfl s12_15), (sl_base hN12 rfl s12_16), (sl_base hN12 rfl s12_17), (sl_base hN12 rfl s12_18), (sl_base hN12 rfl s12_19), (sl_hit hN12 rfl).trans (congrArg (Value.int .i64) (by omega)), (sl_hit hN12 rfl).trans (congrArg Value.bool ((vt_stepX (by omega) (okB_f (by omega))).symm)), (by omega), rfl⟩ (by omega)
        · -- 27 False
          rw [g27]
          refine g_false (j := 1) (dj := 27) (b := true) rfl rfl rfl (ev_hit hN12 rfl) rfl rfl ?_
          refine g_false (j := 1) (dj := 27) (b := true) rfl rfl rfl (ev_hit hN12 rfl) rfl rfl ?_
          refine g_false (j := 1) (dj := 27) (b := true) rfl rfl rfl (ev_hit hN12 rfl) rfl rfl ?_
          refine g_false (j := 1) (dj := 27) (b := true) rfl rfl rfl (ev_hit hN12 rfl) rfl rfl ?_
          refine op_pick_f (ev_hit hN12 rfl) rfl ?_
          refine op_move (ev_hit hN12 rfl) ?_
          refine g_false (j := 7) (dj := 33) (b := true) rfl rfl rfl (ev_hit hN12 rfl) rfl rfl ?_
          refine g_false (j := 7) (dj := 33) (b := true) rfl rfl rfl (ev_hit hN12 rfl) rfl rfl ?_
          refine g_false (j := 7) (dj := 33) (b := true) rfl rfl rfl (ev_hit hN12 rfl) rfl rfl ?_
          refine g_false (j := 7) (dj := 33) (b := true) rfl rfl rfl (ev_hit hN12 rfl) rfl rfl ?_
          refine op_pick_f (ev_hit hN12 rfl) rfl ?_
          refine op_assign (ev_hit hN12 rfl) ?_
          refine reg_nil ?_
          refine hK15 _ _ ?_
          refine one_reg ?_
          refine op_move (ev_base hN12 rfl s12_4) ?_
          refine op_add (ev_hit hN12 rfl) rfl (add64 (by omega)) ?_
          refine op_assign (ev_hit hN12 rfl) ?_
          refine reg_nil ?_
          -- round 16F 19T 23T 27F
          exact loop_next _ hN12 hd12 ⟨i + 1, rfl, (sl_base hN12 rfl s12_0), (sl_base hN12 rfl s12_2), (sl_base hN12 rfl s12_12), (sl_base hN12 rfl s12_13), (sl_base hN12 rfl s12_14), (sl_base hN12 rfl s12_15), (sl_base hN12 rfl s12_16), (sl_base hN12 rfl s12_17), (sl_base hN12 rfl s12_18), (sl_base hN12 rfl s12_19), (sl_hit hN12 rfl).trans (congrArg (Value.int .i64) (by omega)), (sl_hit hN12 rfl).trans (congrArg Value.bool ((vt_stepF (by omega) g27).symm)), (by omega), rfl⟩ (by omega)
      · -- 23 False
        refine reg_nil ?_
        refine hK14 _ _ ?_
        refine wp_cond_false (ev_hit hN12 rfl) ?_
        refine wp_exit (then_exit (then_exit (blk_hit ?_)))
        refine hK10 _ _ ?_
        refine seq_any fun K16 hK16 => ?_
        refine one_reg ?_
        refine op_move (ev_base hN12 rfl s12_0) ?_
        refine op_build (pv := [(0, (Value.int .i64 2)), (2, (Value.string (bs s)))]) (v := (Value.agg #[(Value.int .i64 2), (Value.int .i64 0), (Value.string (bs s))])) ⟨rfl, rfl, ⟨rfl, (ev_hit hN12 rfl), trivial⟩⟩ (by kernel_rfl) ?_
        refine op_alloc (cs := [(Value.int .i64 0), (Value.int .i64 0), (Value.string (bs []))]) zero50 rfl ?_
        intro w17 b18 lo_b18 hi_b18 hB20 E19
        have z_w17 := E19.size
        have hb := below_step0 hb E19 hb.size
        have hB20_old := hB20
        refine op_store (vs := [(Value.int .i64 2), (Value.int .i64 0), (Value.string (bs s))]) (cs' := [(Value.int .i64 2), (Value.int .i64 0), (Value.string (bs s))]) size50 (ev_hit hN12 rfl) (ev_hit hN12 rfl) rfl rfl rfl hB20 (Nat.le_of_ble_eq_true rfl) rfl ?_
        intro w23 hB20 E24
        have z_w23 := E24.size
        have hb := below_step1 hb E24 hb.size (by omega)
        refine reg_nil ?_
        refine hK16 _ _ ?_
        refine seq_any fun K25 hK25 => ?_
        refine seq_any fun K26 hK26 => ?_
        refine one_reg ?_
        refine op_loadA (cs := [(Value.int .i64 2), (Value.int .i64 0), (Value.string (bs s))]) agg50 rfl (ev_hit hN12 rfl) (fun j u hu => by rw [Nat.zero_add]; exact hB20.cell hu) ?_
        refine op_fn (vs := [(Value.agg #[(Value.int .i64 2), (Value.int .i64 0), (Value.string (bs s))])]) ok31 ⟨(ev_hit hN12 rfl), trivial⟩ (May_ret ⟨2, 0, s⟩ _ (by first | assumption | omega | (simp only [List.length_append, List.length_cons, List.length_nil, List.length_drop, List.length_take]; omega) | (dsimp only; omega) | decide | (simp [keyV, be8_len]; done))) ?_
        rintro _ w27 ⟨E28, rfl⟩
        have E28 := grown_of_below E28
        have z_w27 := E28.size
        have hB20 := hB20.keep0 E28
        have hb := below_step0 hb E28 hb.size
        rcases Bool.eq_false_or_eq_true ((mayV ⟨2, 0, s⟩)) with c42 | c42
        · -- 42 True
          rw [c42]
          refine op_move (ev_base hN12 rfl s12_3) ?_
          refine op_neb Try.underlying4 (ev_hit hN12 rfl) (ev_hit hN12 rfl) ?_
          rcases Bool.eq_false_or_eq_true ((true != (decide (s.length ≤ 30) && (s.take i).all okB))) with c44 | c44
          · -- 44 True
            exact absurd c44 (by rw [vt_end (by omega)]; simp [*])
          · -- 44 False
            rw [c44]
            refine reg_nil ?_
            refine hK26 _ _ ?_
            refine wp_cond_false (ev_hit hN12 rfl) ?_
            refine wp_skip ?_
            refine hK25 _ _ ?_
            refine seq_any fun K29 hK29 => ?_
            refine one_reg ?_
            refine op_bslice (e := 5) (pv := [(0, (Value.int .u8 2))]) (cs := [(Value.int .u8 2)]) ⟨rfl, rfl, trivial⟩ (by kernel_rfl) ?_
            intro w30 b31 lo_b31 hi_b31 hB33 E32
            have z_w30 := E32.size
            have hB20 := hB20.keep0 E32
            have hb := below_step0 hb E32 hb.size
            refine op_move (ev_base hN12 rfl s12_0) ?_
            have hP39 := (Own.ofBx (base := w.heap.size) (sz := 1) (n := 1) hB33 rfl (by decide) (by omega))
            refine op_append slt22 (ev_hit hN12 rfl) hP39 (ev_hit hN12 rfl) (Src.ofBs Try.underlying9 s) (by unfold maxLen; omega) (by omega) hb.size ?_
            intro v34 w35 hO37 E36 hm38
            have z_w35 := E36.size
            have hB20 := hB20.keepO hP39 E36 (by decide)
            have hb := below_stepO hb hP39 E36 hb.size (by omega)
            have hO37 : Own w35 w.heap.size 5 1 v34 (1 + s.length) ((([2] ++ s)).map u8v) := by simpa [u8v] using hO37
            refine op_bslice (e := 5) (pv := [(0, (Value.int .u8 0))]) (cs := [(Value.int .u8 0)]) ⟨rfl, rfl, trivial⟩ (by kernel_rfl) ?_
            intro w40 b41 lo_b41 hi_b41 hB43 E42
            have z_w40 := E42.size
            have hB20 := hB20.keep0 E42
            have hO37 := hO37.keep0 E42
            have hb := below_step0 hb E42 hb.size
            have hP49 := hO37
            refine op_append slt22 (ev_hit hN12 rfl) hP49 (ev_hit hN12 rfl) (Src.ofRd Try.underlying22 (by decide) (RdC.ofBx (sz := 1) (n := 1) hB43 rfl (by decide)) (by simp [Value.oneCell', u8v])) (by unfold maxLen; omega) (by omega) hb.size ?_
            intro v44 w45 hO47 E46 hm48
            have z_w45 := E46.size
            have hB20 := hB20.keepO hP49 E46 (by decide)
            have hb := below_stepO hb hP49 E46 hb.size (by omega)
            have hO47 : Own w45 w.heap.size 5 1 v44 ((1 + s.length) + 1) (((([2] ++ s) ++ [0])).map u8v) := by simpa [u8v] using hO47
            have hq50 : RdC w45 0 w45.heap.size 1 v44 (([2] ++ s) ++ [0]).length ((([2] ++ s) ++ [0]).map u8v) := by have hh : RdC w45 0 w45.heap.size 1 _ _ _ := (hO47.rdw.mono (L' := 0) (B' := w45.heap.size) (Nat.zero_le _) (by omega)); first | simpa using hh | simpa [Nat.add_comm, Nat.add_left_comm, Nat.add_assoc] using hh
            refine op_fn (vs := [v44]) ok40 ⟨(ev_hit hN12 rfl), trivial⟩ (Take_ret (([2] ++ s) ++ [0]) v44 _ (by first | assumption | omega | (simp only [List.length_append, List.length_cons, List.length_nil, List.length_drop, List.length_take]; omega) | (dsimp only; omega) | decide | (simp [keyV, be8_len]; done)) hq50) ?_
            rintro _ w51 ⟨E52, rfl⟩
            have E52 := grown_of_below E52
            have z_w51 := E52.size
            have hB20 := hB20.keep0 E52
            have hO47 := hO47.keep0 E52
            have hb := below_step0 hb E52 hb.size
            refine op_move (ev_hit hN12 rfl) ?_
            refine op_extract (ev_hit hN12 rfl) rfl ?_
            refine op_extract (ev_hit hN12 rfl) rfl ?_
            refine op_extract (ev_hit hN12 rfl) rfl ?_
            refine op_alloc (cs := [(Value.int .i64 0), (Value.int .i64 0), (Value.string (bs []))]) zero50 rfl ?_
            intro w53 b54 lo_b54 hi_b54 hB56 E55
            have z_w53 := E55.size
            have hB20 := hB20.keep0 E55
            have hO47 := hO47.keep0 E55
            have hb := below_step0 hb E55 hb.size
            have hB56_old := hB56
            refine op_store (vs := [(Value.int .i64 (takeV (([2] ++ s) ++ [0])).1.k), (Value.int .i64 (takeV (([2] ++ s) ++ [0])).1.n), (Value.string (bs (takeV (([2] ++ s) ++ [0])).1.s))]) (cs' := [(Value.int .i64 (takeV (([2] ++ s) ++ [0])).1.k), (Value.int .i64 (takeV (([2] ++ s) ++ [0])).1.n), (Value.string (bs (takeV (([2] ++ s) ++ [0])).1.s))]) size50 (ev_hit hN12 rfl) (ev_hit hN12 rfl) rfl rfl rfl hB56 (Nat.le_of_ble_eq_true rfl) rfl ?_
            intro w59 hB56 E60
            have z_w59 := E60.size
            have hB20 := hB20.keep E60 (by simp; omega)
            have hO47 := hO47.keepX hB56_old E60 (by decide)
            have hb := below_step1 hb E60 hb.size (by omega)
            refine op_assign (ev_hit hN12 rfl) ?_
            refine op_assign (ev_hit hN12 rfl) ?_
            refine reg_nil ?_
            refine hK29 _ _ ?_
            refine seq_any fun K61 hK61 => ?_
            refine one_reg ?_
            refine op_move (ev_base hN12 rfl s12_0) ?_
            refine op_len_str Try.underlying9 (ev_hit hN12 rfl) ?_
            refine op_assign (ev_hit hN12 rfl) ?_
            refine reg_nil ?_
            refine hK61 _ _ ?_
            refine seq_any fun K62 hK62 => ?_
            refine seq_any fun K63 hK63 => ?_
            refine one_reg ?_
            refine op_assign rfl ?_
            refine reg_nil ?_
            refine hK63 _ _ ?_
            refine wp_block ?_
            refine loop_m (fun m a w' => ∃ (j : Nat), m = s.length - j ∧ (a.tmps.getD 0 undef = (Value.string (bs s))) ∧ (a.tmps.getD 2 undef = (Value.bool false)) ∧ (a.tmps.getD 3 undef = (Value.bool (decide (s.length ≤ 30) && (s.take i).all okB))) ∧ (a.tmps.getD 4 undef = (Value.int .i64 ((i : Nat) : Int))) ∧ (a.tmps.getD 5 undef = (ptr b18 0)) ∧ (a.tmps.getD 6 undef = (ptr b54 0)) ∧ (a.tmps.getD 7 undef = (Value.int .i64 (takeV (([2] ++ s) ++ [0])).2.1)) ∧ (a.tmps.getD 8 undef = (Value.int .i64 (takeV (([2] ++ s) ++ [0])).2.2)) ∧ (a.tmps.getD 12 undef = (Value.bool true)) ∧ (a.tmps.getD 13 undef = (Value.bool false)) ∧ (a.tmps.getD 14 undef = (Value.string (bs s))) ∧ (a.tmps.getD 15 undef = (Value.int .i64 (s.length : Int))) ∧ (a.tmps.getD 16 undef = (Value.bool false)) ∧ (a.tmps.getD 17 undef = (Value.string (bs s))) ∧ (a.tmps.getD 18 undef = (Value.int .i64 (s.length : Int))) ∧ (a.tmps.getD 19 undef = (Value.bool true)) ∧ (a.tmps.getD 20 undef = (Value.int .i64 ((i : Nat) : Int))) ∧ (a.tmps.getD 21 undef = (Value.string (bs s))) ∧ (a.tmps.getD 22 undef = (Value.int .i64 (s.length : Int))) ∧ (a.tmps.getD 23 undef = (Value.bool false)) ∧ (a.tmps.getD 39 undef = (Value.string (bs s))) ∧ (a.tmps.getD 40 undef = (Value.agg #[(Value.int .i64 2), (Value.int .i64 0), (Value.string (bs s))])) ∧ (a.tmps.getD 41 undef = (Value.agg #[(Value.int .i64 2), (Value.int .i64 0), (Value.string (bs s))])) ∧ (a.tmps.getD 42 undef = (Value.bool true)) ∧ (a.tmps.getD 43 undef = (Value.bool (decide (s.length ≤ 30) && (s.take i).all okB))) ∧ (a.tmps.getD 44 undef = (Value.bool false)) ∧ (a.tmps.getD 45 undef = (Value.tuple #[(Value.agg #[(Value.int .i64 (takeV (([2] ++ s) ++ [0])).1.k), (Value.int .i64 (takeV (([2] ++ s) ++ [0])).1.n), (Value.string (bs (takeV (([2] ++ s) ++ [0])).1.s))]), (Value.int .i64 (takeV (([2] ++ s) ++ [0])).2.1), (Value.int .i64 (takeV (([2] ++ s) ++ [0])).2.2)])) ∧ (a.tmps.getD 46 undef = (Value.slice (some ⟨b31, 0, none⟩) 1 1)) ∧ (a.tmps.getD 47 undef = (Value.string (bs s))) ∧ (a.tmps.getD 48 undef = v34) ∧ (a.tmps.getD 49 undef = (Value.slice (some ⟨b41, 0, none⟩) 1 1)) ∧ (a.tmps.getD 50 undef = v44) ∧ (a.tmps.getD 51 undef = (Value.tuple #[(Value.agg #[(Value.int .i64 (takeV (([2] ++ s) ++ [0])).1.k), (Value.int .i64 (takeV (([2] ++ s) ++ [0])).1.n), (Value.string (bs (takeV (([2] ++ s) ++ [0])).1.s))]), (Value.int .i64 (takeV (([2] ++ s) ++ [0])).2.1), (Value.int .i64 (takeV (([2] ++ s) ++ [0])).2.2)])) ∧ (a.tmps.getD 52 undef = (Value.agg #[(Value.int .i64 (takeV (([2] ++ s) ++ [0])).1.k), (Value.int .i64 (takeV (([2] ++ s) ++ [0])).1.n), (Value.string (bs (takeV (([2] ++ s) ++ [0])).1.s))])) ∧ (a.tmps.getD 53 undef = (Value.int .i64 (takeV (([2] ++ s) ++ [0])).2.1)) ∧ (a.tmps.getD 54 undef = (Value.int .i64 (takeV (([2] ++ s) ++ [0])).2.2)) ∧ (a.tmps.getD 55 undef = (Value.string (bs s))) ∧ (a.tmps.getD 56 undef = (Value.int .i64 (s.length : Int))) ∧ (a.tmps.getD 10 undef = (Value.int .i64 ((j : Nat) : Int))) ∧ (a.tmps.getD 9 undef = (Value.int .i64 (((cutT s j) : Nat) : Int))) ∧ (j ≤ s.length) ∧ w59 = w') _ hN12 hd12 ⟨0, rfl, (sl_base hN12 rfl s12_0), (sl_base hN12 rfl s12_2), (sl_base hN12 rfl s12_3), (sl_base hN12 rfl s12_4), (sl_hit hN12 rfl), (sl_hit hN12 rfl), (sl_hit hN12 rfl), (sl_hit hN12 rfl), (sl_base hN12 rfl s12_12), (sl_base hN12 rfl s12_13), (sl_base hN12 rfl s12_14), (sl_base hN12 rfl s12_15), (sl_base hN12 rfl s12_16), (sl_base hN12 rfl s12_17), (sl_base hN12 rfl s12_18), (sl_base hN12 rfl s12_19), (sl_hit hN12 rfl), (sl_hit hN12 rfl), (sl_hit hN12 rfl), (sl_hit hN12 rfl), (sl_hit hN12 rfl), (sl_hit hN12 rfl), (sl_hit hN12 rfl), (sl_hit hN12 rfl), (sl_hit hN12 rfl), (sl_hit hN12 rfl), (sl_hit hN12 rfl), (sl_hit hN12 rfl), (sl_hit hN12 rfl), (sl_hit hN12 rfl), (sl_hit hN12 rfl), (sl_hit hN12 rfl), (sl_hit hN12 rfl), (sl_hit hN12 rfl), (sl_hit hN12 rfl), (sl_hit hN12 rfl), (sl_hit hN12 rfl), (sl_hit hN12 rfl), (sl_hit hN12 rfl), (sl_hit hN12 rfl).trans (congrArg (fun q : Nat => Value.int .i64 (q : Int)) (by simp [cutT])), Nat.zero_le _, rfl⟩ ?_
            rintro _ a64 _ hN64 hd64 ⟨j, rfl, s64_0, s64_2, s64_3, s64_4, s64_5, s64_6, s64_7, s64_8, s64_12, s64_13, s64_14, s64_15, s64_16, s64_17, s64_18, s64_19, s64_20, s64_21, s64_22, s64_23, s64_39, s64_40, s64_41, s64_42, s64_43, s64_44, s64_45, s64_46, s64_47, s64_48, s64_49, s64_50, s64_51, s64_52, s64_53, s64_54, s64_55, s64_56, s64_10, s64_9, hj, rfl⟩
            refine seq_any fun K65 hK65 => ?_
            refine seq_any fun K66 hK66 => ?_
            refine one_reg ?_
            refine op_move (ev_base hN64 rfl s64_10) ?_
            refine op_move (ev_base hN64 rfl s64_0) ?_
            refine op_len_str Try.underlying9 (ev_hit hN64 rfl) ?_
            refine op_lss (ev_hit hN64 rfl) (ev_hit hN64 rfl) (fun c60 => ?_) (fun c60 => ?_)
            · -- 60 True
              refine reg_nil ?_
              refine hK66 _ _ ?_
              refine wp_cond_true (ev_hit hN64 rfl) ?_
              refine wp_skip ?_
              refine hK65 _ _ ?_
              refine seq_any fun K67 hK67 => ?_
              refine wp_block ?_
              refine seq_any fun K68 hK68 => ?_
              refine one_reg ?_
              refine op_move (ev_base hN64 rfl s64_0) ?_
              refine op_move (ev_base hN64 rfl s64_10) ?_
              refine op_index_str (b := (s.getD j 0)) Try.underlying9 (ev_hit hN64 rfl) (ev_hit hN64 rfl) (by omega) (el_str (i := j) (by omega) (by omega)) ?_
              refine op_eql (ev_hit hN64 rfl) rfl (fun c66 => ?_) (fun c66 => ?_)
              · -- 66 True
                refine reg_nil ?_
                refine hK68 _ _ ?_
                refine wp_cond_true (ev_hit hN64 rfl) ?_
                refine one_reg ?_
                refine op_move (ev_base hN64 rfl s64_9) ?_
                refine op_move (ev_base hN64 rfl s64_10) ?_
                refine op_min (r := ((cutT s (j + 1) : Nat) : Int)) (ev_hit hN64 rfl) (ev_hit hN64 rfl) (by rw [← cutT_hit (i := j) (by omega) (by omega)]; omega) ?_
                refine op_assign (ev_hit hN64 rfl) ?_
                refine reg_nil ?_
                refine hK67 _ _ ?_
                refine one_reg ?_
                refine op_move (ev_base hN64 rfl s64_10) ?_
                refine op_add (ev_hit hN64 rfl) rfl (add64 (by omega)) ?_
                refine op_assign (ev_hit hN64 rfl) ?_
                refine reg_nil ?_
                -- round 16F 19T 23F 42T 44F 60T 66T
                exact loop_next _ hN64 hd64 ⟨j + 1, rfl, (sl_base hN64 rfl s64_0), (sl_base hN64 rfl s64_2), (sl_base hN64 rfl s64_3), (sl_base hN64 rfl s64_4), (sl_base hN64 rfl s64_5), (sl_base hN64 rfl s64_6), (sl_base hN64 rfl s64_7), (sl_base hN64 rfl s64_8), (sl_base hN64 rfl s64_12), (sl_base hN64 rfl s64_13), (sl_base hN64 rfl s64_14), (sl_base hN64 rfl s64_15), (sl_base hN64 rfl s64_16), (sl_base hN64 rfl s64_17), (sl_base hN64 rfl s64_18), (sl_base hN64 rfl s64_19), (sl_base hN64 rfl s64_20), (sl_base hN64 rfl s64_21), (sl_base hN64 rfl s64_22), (sl_base hN64 rfl s64_23), (sl_base hN64 rfl s64_39), (sl_base hN64 rfl s64_40), (sl_base hN64 rfl s64_41), (sl_base hN64 rfl s64_42), (sl_base hN64 rfl s64_43), (sl_base hN64 rfl s64_44), (sl_base hN64 rfl s64_45), (sl_base hN64 rfl s64_46), (sl_base hN64 rfl s64_47), (sl_base hN64 rfl s64_48), (sl_base hN64 rfl s64_49), (sl_base hN64 rfl s64_50), (sl_base hN64 rfl s64_51), (sl_base hN64 rfl s64_52), (sl_base hN64 rfl s64_53), (sl_base hN64 rfl s64_54), (sl_base hN64 rfl s64_55), (sl_base hN64 rfl s64_56), (sl_hit hN64 rfl).trans (congrArg (Value.int .i64) (by omega)), (sl_hit hN64 rfl).trans (congrArg (fun q : Nat => Value.int .i64 (q : Int)) (rfl)), (by omega), rfl⟩ (by omega)
              · -- 66 False
                refine reg_nil ?_
                refine hK68 _ _ ?_
                refine wp_cond_false (ev_hit hN64 rfl) ?_
                refine wp_skip ?_
                refine hK67 _ _ ?_
                refine one_reg ?_
                refine op_move (ev_base hN64 rfl s64_10) ?_
                refine op_add (ev_hit hN64 rfl) rfl (add64 (by omega)) ?_
                refine op_assign (ev_hit hN64 rfl) ?_
                refine reg_nil ?_
                -- round 16F 19T 23F 42T 44F 60T 66F
                exact loop_next _ hN64 hd64 ⟨j + 1, rfl, (sl_base hN64 rfl s64_0), (sl_base hN64 rfl s64_2), (sl_base hN64 rfl s64_3), (sl_base hN64 rfl s64_4), (sl_base hN64 rfl s64_5), (sl_base hN64 rfl s64_6), (sl_base hN64 rfl s64_7), (sl_base hN64 rfl s64_8), (sl_base hN64 rfl s64_12), (sl_base hN64 rfl s64_13), (sl_base hN64 rfl s64_14), (sl_base hN64 rfl s64_15), (sl_base hN64 rfl s64_16), (sl_base hN64 rfl s64_17), (sl_base hN64 rfl s64_18), (sl_base hN64 rfl s64_19), (sl_base hN64 rfl s64_20), (sl_base hN64 rfl s64_21), (sl_base hN64 rfl s64_22), (sl_base hN64 rfl s64_23), (sl_base hN64 rfl s64_39), (sl_base hN64 rfl s64_40), (sl_base hN64 rfl s64_41), (sl_base hN64 rfl s64_42), (sl_base hN64 rfl s64_43), (sl_base hN64 rfl s64_44), (sl_base hN64 rfl s64_45), (sl_base hN64 rfl s64_46), (sl_base hN64 rfl s64_47), (sl_base hN64 rfl s64_48), (sl_base hN64 rfl s64_49), (sl_base hN64 rfl s64_50), (sl_base hN64 rfl s64_51), (sl_base hN64 rfl s64_52), (sl_base hN64 rfl s64_53), (sl_base hN64 rfl s64_54), (sl_base hN64 rfl s64_55), (sl_base hN64 rfl s64_56), (sl_hit hN64 rfl).trans (congrArg (Value.int .i64) (by omega)), (sl_base hN64 rfl s64_9).trans (congrArg (fun q : Nat => Value.int .i64 (q : Int)) (cutT_miss (by omega) (by omega))), (by omega), rfl⟩ (by omega)
            · -- 60 False
              refine reg_nil ?_
              refine hK66 _ _ ?_
              refine wp_cond_false (ev_hit hN64 rfl) ?_
              refine wp_exit (then_exit (then_exit (blk_hit ?_)))
              refine hK62 _ _ ?_
              refine seq_any fun K69 hK69 => ?_
              refine one_reg ?_
              have hcut : cutT s j = zf s := cutT_end (by omega)
              have hzl := zf_le s
              have htk : takeV ([2] ++ s ++ [0]) = _ := take_text (s := s)
              refine op_move (ev_base hN64 rfl s64_0) ?_
              refine op_move (ev_base hN64 rfl s64_9) ?_
              refine op_slice_str (lo := 0) (hi := ((cutT s j))) Try.underlying9 (ev_hit hN64 rfl) (.inl ⟨rfl, rfl⟩) (.inr ⟨_, _, rfl, (ev_hit hN64 rfl)⟩) (by omega) (by omega) ?_
              refine op_build (pv := [(0, (Value.int .i64 2)), (2, (Value.string (bs ((s.drop 0).take (((cutT s j)) - 0)))))]) (v := (Value.agg #[(Value.int .i64 2), (Value.int .i64 0), (Value.string (bs ((s.drop 0).take (((cutT s j)) - 0))))])) ⟨rfl, rfl, ⟨rfl, (ev_hit hN64 rfl), trivial⟩⟩ (by kernel_rfl) ?_
              refine op_alloc (cs := [(Value.int .i64 0), (Value.int .i64 0), (Value.string (bs []))]) zero50 rfl ?_
              intro w70 b71 lo_b71 hi_b71 hB73 E72
              have z_w70 := E72.size
              have hB20 := hB20.keep0 E72
              have hO47 := hO47.keep0 E72
              have hB56 := hB56.keep0 E72
              have hb := below_step0 hb E72 hb.size
              have hB73_old := hB73
              refine op_store (vs := [(Value.int .i64 2), (Value.int .i64 0), (Value.string (bs ((s.drop 0).take (((cutT s j)) - 0))))]) (cs' := [(Value.int .i64 2), (Value.int .i64 0), (Value.string (bs ((s.drop 0).take (((cutT s j)) - 0))))]) size50 (ev_hit hN64 rfl) (ev_hit hN64 rfl) rfl rfl rfl hB73 (Nat.le_of_ble_eq_true rfl) rfl ?_
              intro w76 hB73 E77
              have z_w76 := E77.size
              have hB20 := hB20.keep E77 (by simp; omega)
              have hO47 := hO47.keepX hB73_old E77 (by decide)
              have hB56 := hB56.keep E77 (by simp; omega)
              have hb := below_step1 hb E77 hb.size (by omega)
              refine reg_nil ?_
              refine hK69 _ _ ?_
              refine seq_any fun K78 hK78 => ?_
              refine seq_any fun K79 hK79 => ?_
              refine one_reg ?_
              refine op_loadA (cs := [(Value.int .i64 2), (Value.int .i64 0), (Value.string (bs ((s.drop 0).take (((cutT s j)) - 0))))]) agg50 rfl (ev_hit hN64 rfl) (fun j u hu => by rw [Nat.zero_add]; exact hB73.cell hu) ?_
              refine op_fn (vs := [(Value.agg #[(Value.int .i64 2), (Value.int .i64 0), (Value.string (bs ((s.drop 0).take (((cutT s j)) - 0))))])]) ok31 ⟨(ev_hit hN64 rfl), trivial⟩ (May_ret ⟨2, 0, ((s.drop 0).take (((cutT s j)) - 0))⟩ _ (by first | assumption | omega | (simp only [List.length_append, List.length_cons, List.length_nil, List.length_drop, List.length_take]; omega) | (dsimp only; omega) | decide | (simp [keyV, be8_len]; done))) ?_
              rintro _ w80 ⟨E81, rfl⟩
              have E81 := grown_of_below E81
              have z_w80 := E81.size
              have hB20 := hB20.keep0 E81
              have hO47 := hO47.keep0 E81
              have hB56 := hB56.keep0 E81
              have hB73 := hB73.keep0 E81
              have hb := below_step0 hb E81 hb.size
              rcases Bool.eq_false_or_eq_true ((mayV ⟨2, 0, ((s.drop 0).take (((cutT s j)) - 0))⟩)) with c75 | c75
              · -- 75 True
                rw [c75]
                refine op_not (ev_hit hN64 rfl) ?_
                refine reg_nil ?_
                refine hK79 _ _ ?_
                refine wp_cond_false (ev_hit hN64 rfl) ?_
                refine wp_skip ?_
                refine hK78 _ _ ?_
                refine seq_any fun K82 hK82 => ?_
                refine one_reg ?_
                refine op_move (ev_base hN64 rfl s64_8) ?_
                refine op_eql (ev_hit hN64 rfl) rfl (fun c84 => ?_) (fun c84 => ?_)
                · -- 84 True
                  refine op_move (ev_hit hN64 rfl) ?_
                  refine g_true (j := 2) (dj := 85) (b := true) rfl rfl rfl (ev_hit hN64 rfl) ?_
                  refine op_loadA (cs := [(Value.int .i64 (takeV (([2] ++ s) ++ [0])).1.k), (Value.int .i64 (takeV (([2] ++ s) ++ [0])).1.n), (Value.string (bs (takeV (([2] ++ s) ++ [0])).1.s))]) agg50 rfl (ev_base hN64 rfl s64_6) (fun j u hu => by rw [Nat.zero_add]; exact hB56.cell hu) ?_
                  refine g_true (j := 2) (dj := 85) (b := true) rfl rfl rfl (ev_hit hN64 rfl) ?_
                  refine op_loadA (cs := [(Value.int .i64 2), (Value.int .i64 0), (Value.string (bs ((s.drop 0).take (((cutT s j)) - 0))))]) agg50 rfl (ev_hit hN64 rfl) (fun j u hu => by rw [Nat.zero_add]; exact hB73.cell hu) ?_
                  refine g_true (j := 2) (dj := 85) (b := true) rfl rfl rfl (ev_hit hN64 rfl) ?_
                  by_cases c88 : (takeV (([2] ++ s) ++ [0])).1.k = 2 ∧ (takeV (([2] ++ s) ++ [0])).1.n = 0 ∧ (takeV (([2] ++ s) ++ [0])).1.s = ((s.drop 0).take (((cutT s j)) - 0))
                  · -- 88 True
                    refine op_aeql (xs := [(Value.int .i64 (takeV (([2] ++ s) ++ [0])).1.k), (Value.int .i64 (takeV (([2] ++ s) ++ [0])).1.n), (Value.string (bs (takeV (([2] ++ s) ++ [0])).1.s))]) (ys := [(Value.int .i64 2), (Value.int .i64 0), (Value.string (bs ((s.drop 0).take (((cutT s j)) - 0))))]) (b' := true) (ev_hit hN64 rfl) (ev_hit hN64 rfl) (eq50 (takeV (([2] ++ s) ++ [0])).1.k 2 (takeV (([2] ++ s) ++ [0])).1.n 0 (takeV (([2] ++ s) ++ [0])).1.s ((s.drop 0).take (((cutT s j)) - 0))) (decide_eq_true c88) ?_
                    refine op_pick_t (ev_hit hN64 rfl) (ev_hit hN64 rfl) ?_
                    refine op_move (ev_hit hN64 rfl) ?_
                    refine g_true (j := 7) (dj := 90) (b := true) rfl rfl rfl (ev_hit hN64 rfl) ?_
                    refine op_move (ev_base hN64 rfl s64_7) ?_
                    refine g_true (j := 7) (dj := 90) (b := true) rfl rfl rfl (ev_hit hN64 rfl) ?_
                    refine op_move (ev_base hN64 rfl s64_9) ?_
                    refine g_true (j := 7) (dj := 90) (b := true) rfl rfl rfl (ev_hit hN64 rfl) ?_
                    refine op_add (ev_hit hN64 rfl) rfl (add64 (by omega)) ?_
                    refine g_true (j := 7) (dj := 90) (b := true) rfl rfl rfl (ev_hit hN64 rfl) ?_
                    refine op_eql (ev_hit hN64 rfl) (ev_hit hN64 rfl) (fun c94 => ?_) (fun c94 => ?_)
                    · -- 94 True
                      refine op_pick_t (ev_hit hN64 rfl) (ev_hit hN64 rfl) ?_
                      refine op_assign (ev_hit hN64 rfl) ?_
                      refine reg_nil ?_
                      refine hK82 _ _ ?_
                      refine wp_ret ?_
                      refine ret1 rfl hd64 (ev_hit hN64 rfl) ⟨_, rfl, ?_⟩
                      -- path 16F 19T 23F 42T 44F 60F 75T 84T 88T 94T
                      exact ⟨hb, rfl⟩
                    · -- 94 False
                      exact absurd (by rw [htk, if_pos (by rw [hcut] at c75; simpa using c75)]; rw [hcut]) c94
                  · -- 88 False
                    exact absurd (by rw [htk, if_pos (by rw [hcut] at c75; simpa using c75)]; rw [hcut]; simp) c88
                · -- 84 False
                  exact absurd (by rw [htk, if_pos (by rw [hcut] at c75; simpa using c75)]) c84
              · -- 75 False
                rw [c75]
                refine op_not (ev_hit hN64 rfl) ?_
                refine reg_nil ?_
                refine hK79 _ _ ?_
                refine wp_cond_true (ev_hit hN64 rfl) ?_
                refine seq_any fun K83 hK83 => ?_
                refine one_reg ?_
                refine op_move (ev_base hN64 rfl s64_8) ?_
                refine op_eql (ev_hit hN64 rfl) rfl (fun c78 => ?_) (fun c78 => ?_)
                · -- 78 True
                  refine op_move (ev_hit hN64 rfl) ?_
                  refine g_true (j := 2) (dj := 79) (b := true) rfl rfl rfl (ev_hit hN64 rfl) ?_
                  refine op_move (ev_base hN64 rfl s64_7) ?_
                  refine g_true (j := 2) (dj := 79) (b := true) rfl rfl rfl (ev_hit hN64 rfl) ?_
                  refine op_eql (ev_hit hN64 rfl) rfl (fun c81 => ?_) (fun c81 => ?_)
                  · -- 81 True
                    refine op_pick_t (ev_hit hN64 rfl) (ev_hit hN64 rfl) ?_
                    refine op_assign (ev_hit hN64 rfl) ?_
                    refine reg_nil ?_
                    refine hK83 _ _ ?_
                    refine wp_ret (then_ret ( ?_))
                    refine ret1 rfl hd64 (ev_hit hN64 rfl) ⟨_, rfl, ?_⟩
                    -- path 16F 19T 23F 42T 44F 60F 75F 78T 81T
                    exact ⟨hb, rfl⟩
                  · -- 81 False
                    exact absurd (by rw [htk, if_neg (by rw [hcut] at c75; simpa using c75)]) c81
                · -- 78 False
                  exact absurd (by rw [htk, if_neg (by rw [hcut] at c75; simpa using c75)]) c78
        · -- 42 False
          rw [c42]
          refine op_move (ev_base hN12 rfl s12_3) ?_
          refine op_neb Try.underlying4 (ev_hit hN12 rfl) (ev_hit hN12 rfl) ?_
          rcases Bool.eq_false_or_eq_true ((false != (decide (s.length ≤ 30) && (s.take i).all okB))) with c44 | c44
          · -- 44 True
            exact absurd c44 (by rw [vt_end (by omega)]; simp [*])
          · -- 44 False
            rw [c44]
            refine reg_nil ?_
            refine hK26 _ _ ?_
            refine wp_cond_false (ev_hit hN12 rfl) ?_
            refine wp_skip ?_
            refine hK25 _ _ ?_
            refine seq_any fun K84 hK84 => ?_
            refine one_reg ?_
            refine op_bslice (e := 5) (pv := [(0, (Value.int .u8 2))]) (cs := [(Value.int .u8 2)]) ⟨rfl, rfl, trivial⟩ (by kernel_rfl) ?_
            intro w85 b86 lo_b86 hi_b86 hB88 E87
            have z_w85 := E87.size
            have hB20 := hB20.keep0 E87
            have hb := below_step0 hb E87 hb.size
            refine op_move (ev_base hN12 rfl s12_0) ?_
            have hP94 := (Own.ofBx (base := w.heap.size) (sz := 1) (n := 1) hB88 rfl (by decide) (by omega))
            refine op_append slt22 (ev_hit hN12 rfl) hP94 (ev_hit hN12 rfl) (Src.ofBs Try.underlying9 s) (by unfold maxLen; omega) (by omega) hb.size ?_
            intro v89 w90 hO92 E91 hm93
            have z_w90 := E91.size
            have hB20 := hB20.keepO hP94 E91 (by decide)
            have hb := below_stepO hb hP94 E91 hb.size (by omega)
            have hO92 : Own w90 w.heap.size 5 1 v89 (1 + s.length) ((([2] ++ s)).map u8v) := by simpa [u8v] using hO92
            refine op_bslice (e := 5) (pv := [(0, (Value.int .u8 0))]) (cs := [(Value.int .u8 0)]) ⟨rfl, rfl, trivial⟩ (by kernel_rfl) ?_
            intro w95 b96 lo_b96 hi_b96 hB98 E97
            have z_w95 := E97.size
            have hB20 := hB20.keep0 E97
            have hO92 := hO92.keep0 E97
            have hb := below_step0 hb E97 hb.size
            have hP104 := hO92
            refine op_append slt22 (ev_hit hN12 rfl) hP104 (ev_hit hN12 rfl) (Src.ofRd Try.underlying22 (by decide) (RdC.ofBx (sz := 1) (n := 1) hB98 rfl (by decide)) (by simp [Value.oneCell', u8v])) (by unfold maxLen; omega) (by omega) hb.size ?_
            intro v99 w100 hO102 E101 hm103
            have z_w100 := E101.size
            have hB20 := hB20.keepO hP104 E101 (by decide)
            have hb := below_stepO hb hP104 E101 hb.size (by omega)
            have hO102 : Own w100 w.heap.size 5 1 v99 ((1 + s.length) + 1) (((([2] ++ s) ++ [0])).map u8v) := by simpa [u8v] using hO102
            have hq105 : RdC w100 0 w100.heap.size 1 v99 (([2] ++ s) ++ [0]).length ((([2] ++ s) ++ [0]).map u8v) := by have hh : RdC w100 0 w100.heap.size 1 _ _ _ := (hO102.rdw.mono (L' := 0) (B' := w100.heap.size) (Nat.zero_le _) (by omega)); first | simpa using hh | simpa [Nat.add_comm, Nat.add_left_comm, Nat.add_assoc] using hh
            refine op_fn (vs := [v99]) ok40 ⟨(ev_hit hN12 rfl), trivial⟩ (Take_ret (([2] ++ s) ++ [0]) v99 _ (by first | assumption | omega | (simp only [List.length_append, List.length_cons, List.length_nil, List.length_drop, List.length_take]; omega) | (dsimp only; omega) | decide | (simp [keyV, be8_len]; done)) hq105) ?_
            rintro _ w106 ⟨E107, rfl⟩
            have E107 := grown_of_below E107
            have z_w106 := E107.size
            have hB20 := hB20.keep0 E107
            have hO102 := hO102.keep0 E107
            have hb := below_step0 hb E107 hb.size
            refine op_move (ev_hit hN12 rfl) ?_
            refine op_extract (ev_hit hN12 rfl) rfl ?_
            refine op_extract (ev_hit hN12 rfl) rfl ?_
            refine op_extract (ev_hit hN12 rfl) rfl ?_
            refine op_alloc (cs := [(Value.int .i64 0), (Value.int .i64 0), (Value.string (bs []))]) zero50 rfl ?_
            intro w108 b109 lo_b109 hi_b109 hB111 E110
            have z_w108 := E110.size
            have hB20 := hB20.keep0 E110
            have hO102 := hO102.keep0 E110
            have hb := below_step0 hb E110 hb.size
            have hB111_old := hB111
            refine op_store (vs := [(Value.int .i64 (takeV (([2] ++ s) ++ [0])).1.k), (Value.int .i64 (takeV (([2] ++ s) ++ [0])).1.n), (Value.string (bs (takeV (([2] ++ s) ++ [0])).1.s))]) (cs' := [(Value.int .i64 (takeV (([2] ++ s) ++ [0])).1.k), (Value.int .i64 (takeV (([2] ++ s) ++ [0])).1.n), (Value.string (bs (takeV (([2] ++ s) ++ [0])).1.s))]) size50 (ev_hit hN12 rfl) (ev_hit hN12 rfl) rfl rfl rfl hB111 (Nat.le_of_ble_eq_true rfl) rfl ?_
            intro w114 hB111 E115
            have z_w114 := E115.size
            have hB20 := hB20.keep E115 (by simp; omega)
            have hO102 := hO102.keepX hB111_old E115 (by decide)
            have hb := below_step1 hb E115 hb.size (by omega)
            refine op_assign (ev_hit hN12 rfl) ?_
            refine op_assign (ev_hit hN12 rfl) ?_
            refine reg_nil ?_
            refine hK84 _ _ ?_
            refine seq_any fun K116 hK116 => ?_
            refine one_reg ?_
            refine op_move (ev_base hN12 rfl s12_0) ?_
            refine op_len_str Try.underlying9 (ev_hit hN12 rfl) ?_
            refine op_assign (ev_hit hN12 rfl) ?_
            refine reg_nil ?_
            refine hK116 _ _ ?_
            refine seq_any fun K117 hK117 => ?_
            refine seq_any fun K118 hK118 => ?_
            refine one_reg ?_
            refine op_assign rfl ?_
            refine reg_nil ?_
            refine hK118 _ _ ?_
            refine wp_block ?_
            refine loop_m (fun m a w' => ∃ (j : Nat), m = s.length - j ∧ (a.tmps.getD 0 undef = (Value.string (bs s))) ∧ (a.tmps.getD 2 undef = (Value.bool false)) ∧ (a.tmps.getD 3 undef = (Value.bool (decide (s.length ≤ 30) && (s.take i).all okB))) ∧ (a.tmps.getD 4 undef = (Value.int .i64 ((i : Nat) : Int))) ∧ (a.tmps.getD 5 undef = (ptr b18 0)) ∧ (a.tmps.getD 6 undef = (ptr b109 0)) ∧ (a.tmps.getD 7 undef = (Value.int .i64 (takeV (([2] ++ s) ++ [0])).2.1)) ∧ (a.tmps.getD 8 undef = (Value.int .i64 (takeV (([2] ++ s) ++ [0])).2.2)) ∧ (a.tmps.getD 12 undef = (Value.bool true)) ∧ (a.tmps.getD 13 undef = (Value.bool false)) ∧ (a.tmps.getD 14 undef = (Value.string (bs s))) ∧ (a.tmps.getD 15 undef = (Value.int .i64 (s.length : Int))) ∧ (a.tmps.getD 16 undef = (Value.bool false)) ∧ (a.tmps.getD 17 undef = (Value.string (bs s))) ∧ (a.tmps.getD 18 undef = (Value.int .i64 (s.length : Int))) ∧ (a.tmps.getD 19 undef = (Value.bool true)) ∧ (a.tmps.getD 20 undef = (Value.int .i64 ((i : Nat) : Int))) ∧ (a.tmps.getD 21 undef = (Value.string (bs s))) ∧ (a.tmps.getD 22 undef = (Value.int .i64 (s.length : Int))) ∧ (a.tmps.getD 23 undef = (Value.bool false)) ∧ (a.tmps.getD 39 undef = (Value.string (bs s))) ∧ (a.tmps.getD 40 undef = (Value.agg #[(Value.int .i64 2), (Value.int .i64 0), (Value.string (bs s))])) ∧ (a.tmps.getD 41 undef = (Value.agg #[(Value.int .i64 2), (Value.int .i64 0), (Value.string (bs s))])) ∧ (a.tmps.getD 42 undef = (Value.bool false)) ∧ (a.tmps.getD 43 undef = (Value.bool (decide (s.length ≤ 30) && (s.take i).all okB))) ∧ (a.tmps.getD 44 undef = (Value.bool false)) ∧ (a.tmps.getD 45 undef = (Value.tuple #[(Value.agg #[(Value.int .i64 (takeV (([2] ++ s) ++ [0])).1.k), (Value.int .i64 (takeV (([2] ++ s) ++ [0])).1.n), (Value.string (bs (takeV (([2] ++ s) ++ [0])).1.s))]), (Value.int .i64 (takeV (([2] ++ s) ++ [0])).2.1), (Value.int .i64 (takeV (([2] ++ s) ++ [0])).2.2)])) ∧ (a.tmps.getD 46 undef = (Value.slice (some ⟨b86, 0, none⟩) 1 1)) ∧ (a.tmps.getD 47 undef = (Value.string (bs s))) ∧ (a.tmps.getD 48 undef = v89) ∧ (a.tmps.getD 49 undef = (Value.slice (some ⟨b96, 0, none⟩) 1 1)) ∧ (a.tmps.getD 50 undef = v99) ∧ (a.tmps.getD 51 undef = (Value.tuple #[(Value.agg #[(Value.int .i64 (takeV (([2] ++ s) ++ [0])).1.k), (Value.int .i64 (takeV (([2] ++ s) ++ [0])).1.n), (Value.string (bs (takeV (([2] ++ s) ++ [0])).1.s))]), (Value.int .i64 (takeV (([2] ++ s) ++ [0])).2.1), (Value.int .i64 (takeV (([2] ++ s) ++ [0])).2.2)])) ∧ (a.tmps.getD 52 undef = (Value.agg #[(Value.int .i64 (takeV (([2] ++ s) ++ [0])).1.k), (Value.int .i64 (takeV (([2] ++ s) ++ [0])).1.n), (Value.string (bs (takeV (([2] ++ s) ++ [0])).1.s))])) ∧ (a.tmps.getD 53 undef = (Value.int .i64 (takeV (([2] ++ s) ++ [0])).2.1)) ∧ (a.tmps.getD 54 undef = (Value.int .i64 (takeV (([2] ++ s) ++ [0])).2.2)) ∧ (a.tmps.getD 55 undef = (Value.string (bs s))) ∧ (a.tmps.getD 56 undef = (Value.int .i64 (s.length : Int))) ∧ (a.tmps.getD 10 undef = (Value.int .i64 ((j : Nat) : Int))) ∧ (a.tmps.getD 9 undef = (Value.int .i64 (((cutT s j) : Nat) : Int))) ∧ (j ≤ s.length) ∧ w114 = w') _ hN12 hd12 ⟨0, rfl, (sl_base hN12 rfl s12_0), (sl_base hN12 rfl s12_2), (sl_base hN12 rfl s12_3), (sl_base hN12 rfl s12_4), (sl_hit hN12 rfl), (sl_hit hN12 rfl), (sl_hit hN12 rfl), (sl_hit hN12 rfl), (sl_base hN12 rfl s12_12), (sl_base hN12 rfl s12_13), (sl_base hN12 rfl s12_14), (sl_base hN12 rfl s12_15), (sl_base hN12 rfl s12_16), (sl_base hN12 rfl s12_17), (sl_base hN12 rfl s12_18), (sl_base hN12 rfl s12_19), (sl_hit hN12 rfl), (sl_hit hN12 rfl), (sl_hit hN12 rfl), (sl_hit hN12 rfl), (sl_hit hN12 rfl), (sl_hit hN12 rfl), (sl_hit hN12 rfl), (sl_hit hN12 rfl), (sl_hit hN12 rfl), (sl_hit hN12 rfl), (sl_hit hN12 rfl), (sl_hit hN12 rfl), (sl_hit hN12 rfl), (sl_hit hN12 rfl), (sl_hit hN12 rfl), (sl_hit hN12 rfl), (sl_hit hN12 rfl), (sl_hit hN12 rfl), (sl_hit hN12 rfl), (sl_hit hN12 rfl), (sl_hit hN12 rfl), (sl_hit hN12 rfl), (sl_hit hN12 rfl), (sl_hit hN12 rfl).trans (congrArg (fun q : Nat => Value.int .i64 (q : Int)) (by simp [cutT])), Nat.zero_le _, rfl⟩ ?_
            rintro _ a119 _ hN119 hd119 ⟨j, rfl, s119_0, s119_2, s119_3, s119_4, s119_5, s119_6, s119_7, s119_8, s119_12, s119_13, s119_14, s119_15, s119_16, s119_17, s119_18, s119_19, s119_20, s119_21, s119_22, s119_23, s119_39, s119_40, s119_41, s119_42, s119_43, s119_44, s119_45, s119_46, s119_47, s119_48, s119_49, s119_50, s119_51, s119_52, s119_53, s119_54, s119_55, s119_56, s119_10, s119_9, hj, rfl⟩
            refine seq_any fun K120 hK120 => ?_
            refine seq_any fun K121 hK121 => ?_
            refine one_reg ?_
            refine op_move (ev_base hN119 rfl s119_10) ?_
            refine op_move (ev_base hN119 rfl s119_0) ?_
            refine op_len_str Try.underlying9 (ev_hit hN119 rfl) ?_
            refine op_lss (ev_hit hN119 rfl) (ev_hit hN119 rfl) (fun c60 => ?_) (fun c60 => ?_)
            · -- 60 True
              refine reg_nil ?_
              refine hK121 _ _ ?_
              refine wp_cond_true (ev_hit hN119 rfl) ?_
              refine wp_skip ?_
              refine hK120 _ _ ?_
              refine seq_any fun K122 hK122 => ?_
              refine wp_block ?_
              refine seq_any fun K123 hK123 => ?_
              refine one_reg ?_
              refine op_move (ev_base hN119 rfl s119_0) ?_
              refine op_move (ev_base hN119 rfl s119_10) ?_
              refine op_index_str (b := (s.getD j 0)) Try.underlying9 (ev_hit hN119 rfl) (ev_hit hN119 rfl) (by omega) (el_str (i := j) (by omega) (by omega)) ?_
              refine op_eql (ev_hit hN119 rfl) rfl (fun c66 => ?_) (fun c66 => ?_)
              · -- 66 True
                refine reg_nil ?_
                refine hK123 _ _ ?_
                refine wp_cond_true (ev_hit hN119 rfl) ?_
                refine one_reg ?_
                refine op_move (ev_base hN119 rfl s119_9) ?_
                refine op_move (ev_base hN119 rfl s119_10) ?_
                refine op_min (r := ((cutT s (j + 1) : Nat) : Int)) (ev_hit hN119 rfl) (ev_hit hN119 rfl) (by rw [← cutT_hit (i := j) (by omega) (by omega)]; omega) ?_
                refine op_assign (ev_hit hN119 rfl) ?_
                refine reg_nil ?_
                refine hK122 _ _ ?_
                refine one_reg ?_
                refine op_move (ev_base hN119 rfl s119_10) ?_
                refine op_add (ev_hit hN119 rfl) rfl (add64 (by omega)) ?_
                refine op_assign (ev_hit hN119 rfl) ?_
                refine reg_nil ?_
                -- round 16F 19T 23F 42F 44F 60T 66T
                exact loop_next _ hN119 hd119 ⟨j + 1, rfl, (sl_base hN119 rfl s119_0), (sl_base hN119 rfl s119_2), (sl_base hN119 rfl s119_3), (sl_base hN119 rfl s119_4), (sl_base hN119 rfl s119_5), (sl_base hN119 rfl s119_6), (sl_base hN119 rfl s119_7), (sl_base hN119 rfl s119_8), (sl_base hN119 rfl s119_12), (sl_base hN119 rfl s119_13), (sl_base hN119 rfl s119_14), (sl_base hN119 rfl s119_15), (sl_base hN119 rfl s119_16), (sl_base hN119 rfl s119_17), (sl_base hN119 rfl s119_18), (sl_base hN119 rfl s119_19), (sl_base hN119 rfl s119_20), (sl_base hN119 rfl s119_21), (sl_base hN119 rfl s119_22), (sl_base hN119 rfl s119_23), (sl_base hN119 rfl s119_39), (sl_base hN119 rfl s119_40), (sl_base hN119 rfl s119_41), (sl_base hN119 rfl s119_42), (sl_base hN119 rfl s119_43), (sl_base hN119 rfl s119_44), (sl_base hN119 rfl s119_45), (sl_base hN119 rfl s119_46), (sl_base hN119 rfl s119_47), (sl_base hN119 rfl s119_48), (sl_base hN119 rfl s119_49), (sl_base hN119 rfl s119_50), (sl_base hN119 rfl s119_51), (sl_base hN119 rfl s119_52), (sl_base hN119 rfl s119_53), (sl_base hN119 rfl s119_54), (sl_base hN119 rfl s119_55), (sl_base hN119 rfl s119_56), (sl_hit hN119 rfl).trans (congrArg (Value.int .i64) (by omega)), (sl_hit hN119 rfl).trans (congrArg (fun q : Nat => Value.int .i64 (q : Int)) (rfl)), (by omega), rfl⟩ (by omega)
              · -- 66 False
                refine reg_nil ?_
                refine hK123 _ _ ?_
                refine wp_cond_false (ev_hit hN119 rfl) ?_
                refine wp_skip ?_
                refine hK122 _ _ ?_
                refine one_reg ?_
                refine op_move (ev_base hN119 rfl s119_10) ?_
                refine op_add (ev_hit hN119 rfl) rfl (add64 (by omega)) ?_
                refine op_assign (ev_hit hN119 rfl) ?_
                refine reg_nil ?_
                -- round 16F 19T 23F 42F 44F 60T 66F
                exact loop_next _ hN119 hd119 ⟨j + 1, rfl, (sl_base hN119 rfl s119_0), (sl_base hN119 rfl s119_2), (sl_base hN119 rfl s119_3), (sl_base hN119 rfl s119_4), (sl_base hN119 rfl s119_5), (sl_base hN119 rfl s119_6), (sl_base hN119 rfl s119_7), (sl_base hN119 rfl s119_8), (sl_base hN119 rfl s119_12), (sl_base hN119 rfl s119_13), (sl_base hN119 rfl s119_14), (sl_base hN119 rfl s119_15), (sl_base hN119 rfl s119_16), (sl_base hN119 rfl s119_17), (sl_base hN119 rfl s119_18), (sl_base hN119 rfl s119_19), (sl_base hN119 rfl s119_20), (sl_base hN119 rfl s119_21), (sl_base hN119 rfl s119_22), (sl_base hN119 rfl s119_23), (sl_base hN119 rfl s119_39), (sl_base hN119 rfl s119_40), (sl_base hN119 rfl s119_41), (sl_base hN119 rfl s119_42), (sl_base hN119 rfl s119_43), (sl_base hN119 rfl s119_44), (sl_base hN119 rfl s119_45), (sl_base hN119 rfl s119_46), (sl_base hN119 rfl s119_47), (sl_base hN119 rfl s119_48), (sl_base hN119 rfl s119_49), (sl_base hN119 rfl s119_50), (sl_base hN119 rfl s119_51), (sl_base hN119 rfl s119_52), (sl_base hN119 rfl s119_53), (sl_base hN119 rfl s119_54), (sl_base hN119 rfl s119_55), (sl_base hN119 rfl s119_56), (sl_hit hN119 rfl).trans (congrArg (Value.int .i64) (by omega)), (sl_base hN119 rfl s119_9).trans (congrArg (fun q : Nat => Value.int .i64 (q : Int)) (cutT_miss (by omega) (by omega))), (by omega), rfl⟩ (by omega)
            · -- 60 False
              refine reg_nil ?_
              refine hK121 _ _ ?_
              refine wp_cond_false (ev_hit hN119 rfl) ?_
              refine wp_exit (then_exit (then_exit (blk_hit ?_)))
              refine hK117 _ _ ?_
              refine seq_any fun K124 hK124 => ?_
              refine one_reg ?_
              have hcut : cutT s j = zf s := cutT_end (by omega)
              have hzl := zf_le s
              have htk : takeV ([2] ++ s ++ [0]) = _ := take_text (s := s)
              refine op_move (ev_base hN119 rfl s119_0) ?_
              refine op_move (ev_base hN119 rfl s119_9) ?_
              refine op_slice_str (lo := 0) (hi := ((cutT s j))) Try.underlying9 (ev_hit hN119 rfl) (.inl ⟨rfl, rfl⟩) (.inr ⟨_, _, rfl, (ev_hit hN119 rfl)⟩) (by omega) (by omega) ?_
              refine op_build (pv := [(0, (Value.int .i64 2)), (2, (Value.string (bs ((s.drop 0).take (((cutT s j)) - 0)))))]) (v := (Value.agg #[(Value.int .i64 2), (Value.int .i64 0), (Value.string (bs ((s.drop 0).take (((cutT s j)) - 0))))])) ⟨rfl, rfl, ⟨rfl, (ev_hit hN119 rfl), trivial⟩⟩ (by kernel_rfl) ?_
              refine op_alloc (cs := [(Value.int .i64 0), (Value.int .i64 0), (Value.string (bs []))]) zero50 rfl ?_
              intro w125 b126 lo_b126 hi_b126 hB128 E127
              have z_w125 := E127.size
              have hB20 := hB20.keep0 E127
              have hO102 := hO102.keep0 E127
              have hB111 := hB111.keep0 E127
              have hb := below_step0 hb E127 hb.size
              have hB128_old := hB128
              refine op_store (vs := [(Value.int .i64 2), (Value.int .i64 0), (Value.string (bs ((s.drop 0).take (((cutT s j)) - 0))))]) (cs' := [(Value.int .i64 2), (Value.int .i64 0), (Value.string (bs ((s.drop 0).take (((cutT s j)) - 0))))]) size50 (ev_hit hN119 rfl) (ev_hit hN119 rfl) rfl rfl rfl hB128 (Nat.le_of_ble_eq_true rfl) rfl ?_
              intro w131 hB128 E132
              have z_w131 := E132.size
              have hB20 := hB20.keep E132 (by simp; omega)
              have hO102 := hO102.keepX hB128_old E132 (by decide)
              have hB111 := hB111.keep E132 (by simp; omega)
              have hb := below_step1 hb E132 hb.size (by omega)
              refine reg_nil ?_
              refine hK124 _ _ ?_
              refine seq_any fun K133 hK133 => ?_
              refine seq_any fun K134 hK134 => ?_
              refine one_reg ?_
              refine op_loadA (cs := [(Value.int .i64 2), (Value.int .i64 0), (Value.string (bs ((s.drop 0).take (((cutT s j)) - 0))))]) agg50 rfl (ev_hit hN119 rfl) (fun j u hu => by rw [Nat.zero_add]; exact hB128.cell hu) ?_
              refine op_fn (vs := [(Value.agg #[(Value.int .i64 2), (Value.int .i64 0), (Value.string (bs ((s.drop 0).take (((cutT s j)) - 0))))])]) ok31 ⟨(ev_hit hN119 rfl), trivial⟩ (May_ret ⟨2, 0, ((s.drop 0).take (((cutT s j)) - 0))⟩ _ (by first | assumption | omega | (simp only [List.length_append, List.length_cons, List.length_nil, List.length_drop, List.length_take]; omega) | (dsimp only; omega) | decide | (simp [keyV, be8_len]; done))) ?_
              rintro _ w135 ⟨E136, rfl⟩
              have E136 := grown_of_below E136
              have z_w135 := E136.size
              have hB20 := hB20.keep0 E136
              have hO102 := hO102.keep0 E136
              have hB111 := hB111.keep0 E136
              have hB128 := hB128.keep0 E136
              have hb := below_step0 hb E136 hb.size
              rcases Bool.eq_false_or_eq_true ((mayV ⟨2, 0, ((s.drop 0).take (((cutT s j)) - 0))⟩)) with c75 | c75
              · -- 75 True
                rw [c75]
                refine op_not (ev_hit hN119 rfl) ?_
                refine reg_nil ?_
                refine hK134 _ _ ?_
                refine wp_cond_false (ev_hit hN119 rfl) ?_
                refine wp_skip ?_
                refine hK133 _ _ ?_
                refine seq_any fun K137 hK137 => ?_
                refine one_reg ?_
                refine op_move (ev_base hN119 rfl s119_8) ?_
                refine op_eql (ev_hit hN119 rfl) rfl (fun c84 => ?_) (fun c84 => ?_)
                · -- 84 True
                  refine op_move (ev_hit hN119 rfl) ?_
                  refine g_true (j := 2) (dj := 85) (b := true) rfl rfl rfl (ev_hit hN119 rfl) ?_
                  refine op_loadA (cs := [(Value.int .i64 (takeV (([2] ++ s) ++ [0])).1.k), (Value.int .i64 (takeV (([2] ++ s) ++ [0])).1.n), (Value.string (bs (takeV (([2] ++ s) ++ [0])).1.s))]) agg50 rfl (ev_base hN119 rfl s119_6) (fun j u hu => by rw [Nat.zero_add]; exact hB111.cell hu) ?_
                  refine g_true (j := 2) (dj := 85) (b := true) rfl rfl rfl (ev_hit hN119 rfl) ?_
                  refine op_loadA (cs := [(Value.int .i64 2), (Value.int .i64 0), (Value.string (bs ((s.drop 0).take (((cutT s j)) - 0))))]) agg50 rfl (ev_hit hN119 rfl) (fun j u hu => by rw [Nat.zero_add]; exact hB128.cell hu) ?_
                  refine g_true (j := 2) (dj := 85) (b := true) rfl rfl rfl (ev_hit hN119 rfl) ?_
                  by_cases c88 : (takeV (([2] ++ s) ++ [0])).1.k = 2 ∧ (takeV (([2] ++ s) ++ [0])).1.n = 0 ∧ (takeV (([2] ++ s) ++ [0])).1.s = ((s.drop 0).take (((cutT s j)) - 0))
                  · -- 88 True
                    refine op_aeql (xs := [(Value.int .i64 (takeV (([2] ++ s) ++ [0])).1.k), (Value.int .i64 (takeV (([2] ++ s) ++ [0])).1.n), (Value.string (bs (takeV (([2] ++ s) ++ [0])).1.s))]) (ys := [(Value.int .i64 2), (Value.int .i64 0), (Value.string (bs ((s.drop 0).take (((cutT s j)) - 0))))]) (b' := true) (ev_hit hN119 rfl) (ev_hit hN119 rfl) (eq50 (takeV (([2] ++ s) ++ [0])).1.k 2 (takeV (([2] ++ s) ++ [0])).1.n 0 (takeV (([2] ++ s) ++ [0])).1.s ((s.drop 0).take (((cutT s j)) - 0))) (decide_eq_true c88) ?_
                    refine op_pick_t (ev_hit hN119 rfl) (ev_hit hN119 rfl) ?_
                    refine op_move (ev_hit hN119 rfl) ?_
                    refine g_true (j := 7) (dj := 90) (b := true) rfl rfl rfl (ev_hit hN119 rfl) ?_
                    refine op_move (ev_base hN119 rfl s119_7) ?_
                    refine g_true (j := 7) (dj := 90) (b := true) rfl rfl rfl (ev_hit hN119 rfl) ?_
                    refine op_move (ev_base hN119 rfl s119_9) ?_
                    refine g_true (j := 7) (dj := 90) (b := true) rfl rfl rfl (ev_hit hN119 rfl) ?_
                    refine op_add (ev_hit hN119 rfl) rfl (add64 (by omega)) ?_
                    refine g_true (j := 7) (dj := 90) (b := true) rfl rfl rfl (ev_hit hN119 rfl) ?_
                    refine op_eql (ev_hit hN119 rfl) (ev_hit hN119 rfl) (fun c94 => ?_) (fun c94 => ?_)
                    · -- 94 True
                      refine op_pick_t (ev_hit hN119 rfl) (ev_hit hN119 rfl) ?_
                      refine op_assign (ev_hit hN119 rfl) ?_
                      refine reg_nil ?_
                      refine hK137 _ _ ?_
                      refine wp_ret ?_
                      refine ret1 rfl hd119 (ev_hit hN119 rfl) ⟨_, rfl, ?_⟩
                      -- path 16F 19T 23F 42F 44F 60F 75T 84T 88T 94T
                      exact ⟨hb, rfl⟩
                    · -- 94 False
                      exact absurd (by rw [htk, if_pos (by rw [hcut] at c75; simpa using c75)]; rw [hcut]) c94
                  · -- 88 False
                    exact absurd (by rw [htk, if_pos (by rw [hcut] at c75; simpa using c75)]; rw [hcut]; simp) c88
                · -- 84 False
                  exact absurd (by rw [htk, if_pos (by rw [hcut] at c75; simpa using c75)]) c84
              · -- 75 False
                rw [c75]
                refine op_not (ev_hit hN119 rfl) ?_
                refine reg_nil ?_
                refine hK134 _ _ ?_
                refine wp_cond_true (ev_hit hN119 rfl) ?_
                refine seq_any fun K138 hK138 => ?_
                refine one_reg ?_
                refine op_move (ev_base hN119 rfl s119_8) ?_
                refine op_eql (ev_hit hN119 rfl) rfl (fun c78 => ?_) (fun c78 => ?_)
                · -- 78 True
                  refine op_move (ev_hit hN119 rfl) ?_
                  refine g_true (j := 2) (dj := 79) (b := true) rfl rfl rfl (ev_hit hN119 rfl) ?_
                  refine op_move (ev_base hN119 rfl s119_7) ?_
                  refine g_true (j := 2) (dj := 79) (b := true) rfl rfl rfl (ev_hit hN119 rfl) ?_
                  refine op_eql (ev_hit hN119 rfl) rfl (fun c81 => ?_) (fun c81 => ?_)
                  · -- 81 True
                    refine op_pick_t (ev_hit hN119 rfl) (ev_hit hN119 rfl) ?_
                    refine op_assign (ev_hit hN119 rfl) ?_
                    refine reg_nil ?_
                    refine hK138 _ _ ?_
                    refine wp_ret (then_ret ( ?_))
                    refine ret1 rfl hd119 (ev_hit hN119 rfl) ⟨_, rfl, ?_⟩
                    -- path 16F 19T 23F 42F 44F 60F 75F 78T 81T
                    exact ⟨hb, rfl⟩
                  · -- 81 False
                    exact absurd (by rw [htk, if_neg (by rw [hcut] at c75; simpa using c75)]) c81
                · -- 78 False
                  exact absurd (by rw [htk, if_neg (by rw [hcut] at c75; simpa using c75)]) c78
    · -- 19 False
      refine op_assign (ev_hit hN rfl) ?_
      refine reg_nil ?_
      refine hK9 _ _ ?_
      refine seq_any fun K139 hK139 => ?_
      refine seq_any fun K140 hK140 => ?_
      refine one_reg ?_
      refine op_assign rfl ?_
      refine reg_nil ?_
      refine hK140 _ _ ?_
      refine wp_block ?_
      refine loop_m (fun m a w' => ∃ (i : Nat), m = s.length - i ∧ (a.tmps.getD 0 undef = (Value.string (bs s))) ∧ (a.tmps.getD 2 undef = (Value.bool false)) ∧ (a.tmps.getD 12 undef = (Value.bool true)) ∧ (a.tmps.getD 13 undef = (Value.bool false)) ∧ (a.tmps.getD 14 undef = (Value.string (bs s))) ∧ (a.tmps.getD 15 undef = (Value.int .i64 (s.length : Int))) ∧ (a.tmps.getD 16 undef = (Value.bool false)) ∧ (a.tmps.getD 17 undef = (Value.string (bs s))) ∧ (a.tmps.getD 18 undef = (Value.int .i64 (s.length : Int))) ∧ (a.tmps.getD 19 undef = (Value.bool false)) ∧ (a.tmps.getD 4 undef = (Value.int .i64 ((i : Nat) : Int))) ∧ (a.tmps.getD 3 undef = (Value.bool (decide (s.length ≤ 30) && (s.take i).all okB))) ∧ (i ≤ s.length) ∧ w4 = w') _ hN hd ⟨0, rfl, (sl_base hN rfl s0), (sl_hit hN rfl), (sl_hit hN rfl), (sl_hit hN rfl), (sl_hit hN rfl), (sl_hit hN rfl), (sl_hit hN rfl), (sl_hit hN rfl), (sl_hit hN rfl), (sl_hit hN rfl), (sl_hit hN rfl), (sl_hit hN rfl).trans (congrArg Value.bool (by simp; omega)), Nat.zero_le _, rfl⟩ ?_
      rintro _ a141 _ hN141 hd141 ⟨i, rfl, s141_0, s141_2, s141_12, s141_13, s141_14, s141_15, s141_16, s141_17, s141_18, s141_19, s141_4, s141_3, hi, rfl⟩
      refine seq_any fun K142 hK142 => ?_
      refine seq_any fun K143 hK143 => ?_
      refine one_reg ?_
      refine op_move (ev_base hN141 rfl s141_4) ?_
      refine op_move (ev_base hN141 rfl s141_0) ?_
      refine op_len_str Try.underlying9 (ev_hit hN141 rfl) ?_
      refine op_lss (ev_hit hN141 rfl) (ev_hit hN141 rfl) (fun c23 => ?_) (fun c23 => ?_)
      · -- 23 True
        refine reg_nil ?_
        refine hK143 _ _ ?_
        refine wp_cond_true (ev_hit hN141 rfl) ?_
        refine wp_skip ?_
        refine hK142 _ _ ?_
        refine seq_any fun K144 hK144 => ?_
        refine wp_block ?_
        refine one_reg ?_
        refine op_move (ev_base hN141 rfl s141_3) ?_
        refine op_move (ev_hit hN141 rfl) ?_
        rcases Bool.eq_false_or_eq_true ((decide (s.length ≤ 30) && (s.take i).all okB)) with g27 | g27
        · -- 27 True
          rw [g27]
          refine g_true (j := 1) (dj := 27) (b := true) rfl rfl rfl (ev_hit hN141 rfl) ?_
          refine op_move (ev_base hN141 rfl s141_0) ?_
          refine g_true (j := 1) (dj := 27) (b := true) rfl rfl rfl (ev_hit hN141 rfl) ?_
          refine op_move (ev_base hN141 rfl s141_4) ?_
          refine g_true (j := 1) (dj := 27) (b := true) rfl rfl rfl (ev_hit hN141 rfl) ?_
          refine op_index_str (b := (s.getD i 0)) Try.underlying9 (ev_hit hN141 rfl) (ev_hit hN141 rfl) (by omega) (el_str (i := i) (by omega) (by omega)) ?_
          refine g_true (j := 1) (dj := 27) (b := true) rfl rfl rfl (ev_hit hN141 rfl) ?_
          refine op_geq (ev_hit hN141 rfl) rfl (fun c31 => ?_) (fun c31 => ?_)
          · -- 31 True
            refine op_pick_t (ev_hit hN141 rfl) (ev_hit hN141 rfl) ?_
            refine op_move (ev_hit hN141 rfl) ?_
            refine g_true (j := 7) (dj := 33) (b := true) rfl rfl rfl (ev_hit hN141 rfl) ?_
            refine op_move (ev_base hN141 rfl s141_0) ?_
            refine g_true (j := 7) (dj := 33) (b := true) rfl rfl rfl (ev_hit hN141 rfl) ?_
            refine op_move (ev_base hN141 rfl s141_4) ?_
            refine g_true (j := 7) (dj := 33) (b := true) rfl rfl rfl (ev_hit hN141 rfl) ?_
            refine op_index_str (b := (s.getD i 0)) Try.underlying9 (ev_hit hN141 rfl) (ev_hit hN141 rfl) (by omega) (el_str (i := i) (by omega) (by omega)) ?_
            refine g_true (j := 7) (dj := 33) (b := true) rfl rfl rfl (ev_hit hN141 rfl) ?_
            refine op_leq (ev_hit hN141 rfl) rfl (fun c37 => ?_) (fun c37 => ?_)
            · -- 37 True
              refine op_pick_t (ev_hit hN141 rfl) (ev_hit hN141 rfl) ?_
              refine op_assign (ev_hit hN141 rfl) ?_
              refine reg_nil ?_
              refine hK144 _ _ ?_
              refine one_reg ?_
              refine op_move (ev_base hN141 rfl s141_4) ?_
              refine op_add (ev_hit hN141 rfl) rfl (add64 (by omega)) ?_
              refine op_assign (ev_hit hN141 rfl) ?_
              refine reg_nil ?_
              -- round 16F 19F 23T 27T 31T 37T
              exact loop_next _ hN141 hd141 ⟨i + 1, rfl, (sl_base hN141 rfl s141_0), (sl_base hN141 rfl s141_2), (sl_base hN141 rfl s141_12), (sl_base hN141 rfl s141_13), (sl_base hN141 rfl s141_14), (sl_base hN141 rfl s141_15), (sl_base hN141 rfl s141_16), (sl_base hN141 rfl s141_17), (sl_base hN141 rfl s141_18), (sl_base hN141 rfl s141_19), (sl_hit hN141 rfl).trans (congrArg (Value.int .i64) (by omega)), (sl_hit hN141 rfl).trans (congrArg Value.bool ((vt_stepT (by omega) g27 (okB_t (by omega))).symm)), (by omega), rfl⟩ (by omega)
            · -- 37 False
              refine op_pick_t (ev_hit hN141 rfl) (ev_hit hN141 rfl) ?_
              refine op_assign (ev_hit hN141 rfl) ?_
              refine reg_nil ?_
              refine hK144 _ _ ?_
              refine one_reg ?_
              refine op_move (ev_base hN141 rfl s141_4) ?_
              refine op_add (ev_hit hN141 rfl) rfl (add64 (by omega)) ?_
              refine op_assign (ev_hit hN141 rfl) ?_
              refine reg_nil ?_
              -- round 16F 19F 23T 27T 31T 37F
              exact loop_next _ hN141 hd141 ⟨i + 1, rfl, (sl_base hN141 rfl s141_0), (sl_base hN141 rfl s141_2), (sl_base hN141 rfl s141_12), (sl_base hN141 rfl s141_13), (sl_base hN141 rfl s141_14), (sl_base hN141 rfl s141_15), (sl_base hN141 rfl s141_16), (sl_base hN141 rfl s141_17), (sl_base hN141 rfl s141_18), (sl_base hN141 rfl s141_19), (sl_hit hN141 rfl).trans (congrArg (Value.int .i64) (by omega)), (sl_hit hN141 rfl).trans (congrArg Value.bool ((vt_stepX (by omega) (okB_f (by omega))).symm)), (by omega), rfl⟩ (by omega)
          · -- 31 False
            refine op_pick_t (ev_hit hN141 rfl) (ev_hit hN141 rfl) ?_
            refine op_move (ev_hit hN141 rfl) ?_
            refine g_false (j := 7) (dj := 33) (b := true) rfl rfl rfl (ev_hit hN141 rfl) rfl rfl ?_
            refine g_false (j := 7) (dj := 33) (b := true) rfl rfl rfl (ev_hit hN141 rfl) rfl rfl ?_
            refine g_false (j := 7) (dj := 33) (b := true) rfl rfl rfl (ev_hit hN141 rfl) rfl rfl ?_
            refine g_false (j := 7) (dj := 33) (b := true) rfl rfl rfl (ev_hit hN141 rfl) rfl rfl ?_
            refine op_pick_f (ev_hit hN141 rfl) rfl ?_
            refine op_assign (ev_hit hN141 rfl) ?_
            refine reg_nil ?_
            refine hK144 _ _ ?_
            refine one_reg ?_
            refine op_move (ev_base hN141 rfl s141_4) ?_
            refine op_add (ev_hit hN141 rfl) rfl (add64 (by omega)) ?_
            refine op_assign (ev_hit hN141 rfl) ?_
            refine reg_nil ?_
            -- round 16F 19F 23T 27T 31F
            exact loop_next _ hN141 hd141 ⟨i + 1, rfl, (sl_base hN141 rfl s141_0), (sl_base hN141 rfl s141_2), (sl_base hN141 rfl s141_12), (sl_base hN141 rfl s141_13), (sl_base hN141 rfl s141_14), (sl_base hN141 rfl s141_15), (sl_base hN141 rfl s141_16), (sl_base hN141 rfl s141_17), (sl_base hN141 rfl s141_18), (sl_base hN141 rfl s141_19), (sl_hit hN141 rfl).trans (congrArg (Value.int .i64) (by omega)), (sl_hit hN141 rfl).trans (congrArg Value.bool ((vt_stepX (by omega) (okB_f (by omega))).symm)), (by omega), rfl⟩ (by omega)
        · -- 27 False
          rw [g27]
          refine g_false (j := 1) (dj := 27) (b := true) rfl rfl rfl (ev_hit hN141 rfl) rfl rfl ?_
          refine g_false (j := 1) (dj := 27) (b := true) rfl rfl rfl (ev_hit hN141 rfl) rfl rfl ?_
          refine g_false (j := 1) (dj := 27) (b := true) rfl rfl rfl (ev_hit hN141 rfl) rfl rfl ?_
          refine g_false (j := 1) (dj := 27) (b := true) rfl rfl rfl (ev_hit hN141 rfl) rfl rfl ?_
          refine op_pick_f (ev_hit hN141 rfl) rfl ?_
          refine op_move (ev_hit hN141 rfl) ?_
          refine g_false (j := 7) (dj := 33) (b := true) rfl rfl rfl (ev_hit hN141 rfl) rfl rfl ?_
          refine g_false (j := 7) (dj := 33) (b := true) rfl rfl rfl (ev_hit hN141 rfl) rfl rfl ?_
          refine g_false (j := 7) (dj := 33) (b := true) rfl rfl rfl (ev_hit hN141 rfl) rfl rfl ?_
          refine g_false (j := 7) (dj := 33) (b := true) rfl rfl rfl (ev_hit hN141 rfl) rfl rfl ?_
          refine op_pick_f (ev_hit hN141 rfl) rfl ?_
          refine op_assign (ev_hit hN141 rfl) ?_
          refine reg_nil ?_
          refine hK144 _ _ ?_
          refine one_reg ?_
          refine op_move (ev_base hN141 rfl s141_4) ?_
          refine op_add (ev_hit hN141 rfl) rfl (add64 (by omega)) ?_
          refine op_assign (ev_hit hN141 rfl) ?_
          refine reg_nil ?_
          -- round 16F 19F 23T 27F
          exact loop_next _ hN141 hd141 ⟨i + 1, rfl, (sl_base hN141 rfl s141_0), (sl_base hN141 rfl s141_2), (sl_base hN141 rfl s141_12), (sl_base hN141 rfl s141_13), (sl_base hN141 rfl s141_14), (sl_base hN141 rfl s141_15), (sl_base hN141 rfl s141_16), (sl_base hN141 rfl s141_17), (sl_base hN141 rfl s141_18), (sl_base hN141 rfl s141_19), (sl_hit hN141 rfl).trans (congrArg (Value.int .i64) (by omega)), (sl_hit hN141 rfl).trans (congrArg Value.bool ((vt_stepF (by omega) g27).symm)), (by omega), rfl⟩ (by omega)
      · -- 23 False
        refine reg_nil ?_
        refine hK143 _ _ ?_
        refine wp_cond_false (ev_hit hN141 rfl) ?_
        refine wp_exit (then_exit (then_exit (blk_hit ?_)))
        refine hK139 _ _ ?_
        refine seq_any fun K145 hK145 => ?_
        refine one_reg ?_
        refine op_move (ev_base hN141 rfl s141_0) ?_
        refine op_build (pv := [(0, (Value.int .i64 2)), (2, (Value.string (bs s)))]) (v := (Value.agg #[(Value.int .i64 2), (Value.int .i64 0), (Value.string (bs s))])) ⟨rfl, rfl, ⟨rfl, (ev_hit hN141 rfl), trivial⟩⟩ (by kernel_rfl) ?_
        refine op_alloc (cs := [(Value.int .i64 0), (Value.int .i64 0), (Value.string (bs []))]) zero50 rfl ?_
        intro w146 b147 lo_b147 hi_b147 hB149 E148
        have z_w146 := E148.size
        have hb := below_step0 hb E148 hb.size
        have hB149_old := hB149
        refine op_store (vs := [(Value.int .i64 2), (Value.int .i64 0), (Value.string (bs s))]) (cs' := [(Value.int .i64 2), (Value.int .i64 0), (Value.string (bs s))]) size50 (ev_hit hN141 rfl) (ev_hit hN141 rfl) rfl rfl rfl hB149 (Nat.le_of_ble_eq_true rfl) rfl ?_
        intro w152 hB149 E153
        have z_w152 := E153.size
        have hb := below_step1 hb E153 hb.size (by omega)
        refine reg_nil ?_
        refine hK145 _ _ ?_
        refine seq_any fun K154 hK154 => ?_
        refine seq_any fun K155 hK155 => ?_
        refine one_reg ?_
        refine op_loadA (cs := [(Value.int .i64 2), (Value.int .i64 0), (Value.string (bs s))]) agg50 rfl (ev_hit hN141 rfl) (fun j u hu => by rw [Nat.zero_add]; exact hB149.cell hu) ?_
        refine op_fn (vs := [(Value.agg #[(Value.int .i64 2), (Value.int .i64 0), (Value.string (bs s))])]) ok31 ⟨(ev_hit hN141 rfl), trivial⟩ (May_ret ⟨2, 0, s⟩ _ (by first | assumption | omega | (simp only [List.length_append, List.length_cons, List.length_nil, List.length_drop, List.length_take]; omega) | (dsimp only; omega) | decide | (simp [keyV, be8_len]; done))) ?_
        rintro _ w156 ⟨E157, rfl⟩
        have E157 := grown_of_below E157
        have z_w156 := E157.size
        have hB149 := hB149.keep0 E157
        have hb := below_step0 hb E157 hb.size
        rcases Bool.eq_false_or_eq_true ((mayV ⟨2, 0, s⟩)) with c42 | c42
        · -- 42 True
          rw [c42]
          refine op_move (ev_base hN141 rfl s141_3) ?_
          refine op_neb Try.underlying4 (ev_hit hN141 rfl) (ev_hit hN141 rfl) ?_
          rcases Bool.eq_false_or_eq_true ((true != (decide (s.length ≤ 30) && (s.take i).all okB))) with c44 | c44
          · -- 44 True
            exact absurd c44 (by rw [vt_end (by omega)]; simp [*])
          · -- 44 False
            rw [c44]
            refine reg_nil ?_
            refine hK155 _ _ ?_
            refine wp_cond_false (ev_hit hN141 rfl) ?_
            refine wp_skip ?_
            refine hK154 _ _ ?_
            refine seq_any fun K158 hK158 => ?_
            refine one_reg ?_
            refine op_bslice (e := 5) (pv := [(0, (Value.int .u8 2))]) (cs := [(Value.int .u8 2)]) ⟨rfl, rfl, trivial⟩ (by kernel_rfl) ?_
            intro w159 b160 lo_b160 hi_b160 hB162 E161
            have z_w159 := E161.size
            have hB149 := hB149.keep0 E161
            have hb := below_step0 hb E161 hb.size
            refine op_move (ev_base hN141 rfl s141_0) ?_
            have hP168 := (Own.ofBx (base := w.heap.size) (sz := 1) (n := 1) hB162 rfl (by decide) (by omega))
            refine op_append slt22 (ev_hit hN141 rfl) hP168 (ev_hit hN141 rfl) (Src.ofBs Try.underlying9 s) (by unfold maxLen; omega) (by omega) hb.size ?_
            intro v163 w164 hO166 E165 hm167
            have z_w164 := E165.size
            have hB149 := hB149.keepO hP168 E165 (by decide)
            have hb := below_stepO hb hP168 E165 hb.size (by omega)
            have hO166 : Own w164 w.heap.size 5 1 v163 (1 + s.length) ((([2] ++ s)).map u8v) := by simpa [u8v] using hO166
            refine op_bslice (e := 5) (pv := [(0, (Value.int .u8 0))]) (cs := [(Value.int .u8 0)]) ⟨rfl, rfl, trivial⟩ (by kernel_rfl) ?_
            intro w169 b170 lo_b170 hi_b170 hB172 E171
            have z_w169 := E171.size
            have hB149 := hB149.keep0 E171
            have hO166 := hO166.keep0 E171
            have hb := below_step0 hb E171 hb.size
            have hP178 := hO166
            refine op_append slt22 (ev_hit hN141 rfl) hP178 (ev_hit hN141 rfl) (Src.ofRd Try.underlying22 (by decide) (RdC.ofBx (sz := 1) (n := 1) hB172 rfl (by decide)) (by simp [Value.oneCell', u8v])) (by unfold maxLen; omega) (by omega) hb.size ?_
            intro v173 w174 hO176 E175 hm177
            have z_w174 := E175.size
            have hB149 := hB149.keepO hP178 E175 (by decide)
            have hb := below_stepO hb hP178 E175 hb.size (by omega)
            have hO176 : Own w174 w.heap.size 5 1 v173 ((1 + s.length) + 1) (((([2] ++ s) ++ [0])).map u8v) := by simpa [u8v] using hO176
            have hq179 : RdC w174 0 w174.heap.size 1 v173 (([2] ++ s) ++ [0]).length ((([2] ++ s) ++ [0]).map u8v) := by have hh : RdC w174 0 w174.heap.size 1 _ _ _ := (hO176.rdw.mono (L' := 0) (B' := w174.heap.size) (Nat.zero_le _) (by omega)); first | simpa using hh | simpa [Nat.add_comm, Nat.add_left_comm, Nat.add_assoc] using hh
            refine op_fn (vs := [v173]) ok40 ⟨(ev_hit hN141 rfl), trivial⟩ (Take_ret (([2] ++ s) ++ [0]) v173 _ (by first | assumption | omega | (simp only [List.length_append, List.length_cons, List.length_nil, List.length_drop, List.length_take]; omega) | (dsimp only; omega) | decide | (simp [keyV, be8_len]; done)) hq179) ?_
            rintro _ w180 ⟨E181, rfl⟩
            have E181 := grown_of_below E181
            have z_w180 := E181.size
            have hB149 := hB149.keep0 E181
            have hO176 := hO176.keep0 E181
            have hb := below_step0 hb E181 hb.size
            refine op_move (ev_hit hN141 rfl) ?_
            refine op_extract (ev_hit hN141 rfl) rfl ?_
            refine op_extract (ev_hit hN141 rfl) rfl ?_
            refine op_extract (ev_hit hN141 rfl) rfl ?_
            refine op_alloc (cs := [(Value.int .i64 0), (Value.int .i64 0), (Value.string (bs []))]) zero50 rfl ?_
            intro w182 b183 lo_b183 hi_b183 hB185 E184
            have z_w182 := E184.size
            have hB149 := hB149.keep0 E184
            have hO176 := hO176.keep0 E184
            have hb := below_step0 hb E184 hb.size
            have hB185_old := hB185
            refine op_store (vs := [(Value.int .i64 (takeV (([2] ++ s) ++ [0])).1.k), (Value.int .i64 (takeV (([2] ++ s) ++ [0])).1.n), (Value.string (bs (takeV (([2] ++ s) ++ [0])).1.s))]) (cs' := [(Value.int .i64 (takeV (([2] ++ s) ++ [0])).1.k), (Value.int .i64 (takeV (([2] ++ s) ++ [0])).1.n), (Value.string (bs (takeV (([2] ++ s) ++ [0])).1.s))]) size50 (ev_hit hN141 rfl) (ev_hit hN141 rfl) rfl rfl rfl hB185 (Nat.le_of_ble_eq_true rfl) rfl ?_
            intro w188 hB185 E189
            have z_w188 := E189.size
            have hB149 := hB149.keep E189 (by simp; omega)
            have hO176 := hO176.keepX hB185_old E189 (by decide)
            have hb := below_step1 hb E189 hb.size (by omega)
            refine op_assign (ev_hit hN141 rfl) ?_
            refine op_assign (ev_hit hN141 rfl) ?_
            refine reg_nil ?_
            refine hK158 _ _ ?_
            refine seq_any fun K190 hK190 => ?_
            refine one_reg ?_
            refine op_move (ev_base hN141 rfl s141_0) ?_
            refine op_len_str Try.underlying9 (ev_hit hN141 rfl) ?_
            refine op_assign (ev_hit hN141 rfl) ?_
            refine reg_nil ?_
            refine hK190 _ _ ?_
            refine seq_any fun K191 hK191 => ?_
            refine seq_any fun K192 hK192 => ?_
            refine one_reg ?_
            refine op_assign rfl ?_
            refine reg_nil ?_
            refine hK192 _ _ ?_
            refine wp_block ?_
            refine loop_m (fun m a w' => ∃ (j : Nat), m = s.length - j ∧ (a.tmps.getD 0 undef = (Value.string (bs s))) ∧ (a.tmps.getD 2 undef = (Value.bool false)) ∧ (a.tmps.getD 3 undef = (Value.bool (decide (s.length ≤ 30) && (s.take i).all okB))) ∧ (a.tmps.getD 4 undef = (Value.int .i64 ((i : Nat) : Int))) ∧ (a.tmps.getD 5 undef = (ptr b147 0)) ∧ (a.tmps.getD 6 undef = (ptr b183 0)) ∧ (a.tmps.getD 7 undef = (Value.int .i64 (takeV (([2] ++ s) ++ [0])).2.1)) ∧ (a.tmps.getD 8 undef = (Value.int .i64 (takeV (([2] ++ s) ++ [0])).2.2)) ∧ (a.tmps.getD 12 undef = (Value.bool true)) ∧ (a.tmps.getD 13 undef = (Value.bool false)) ∧ (a.tmps.getD 14 undef = (Value.string (bs s))) ∧ (a.tmps.getD 15 undef = (Value.int .i64 (s.length : Int))) ∧ (a.tmps.getD 16 undef = (Value.bool false)) ∧ (a.tmps.getD 17 undef = (Value.string (bs s))) ∧ (a.tmps.getD 18 undef = (Value.int .i64 (s.length : Int))) ∧ (a.tmps.getD 19 undef = (Value.bool false)) ∧ (a.tmps.getD 20 undef = (Value.int .i64 ((i : Nat) : Int))) ∧ (a.tmps.getD 21 undef = (Value.string (bs s))) ∧ (a.tmps.getD 22 undef = (Value.int .i64 (s.length : Int))) ∧ (a.tmps.getD 23 undef = (Value.bool false)) ∧ (a.tmps.getD 39 undef = (Value.string (bs s))) ∧ (a.tmps.getD 40 undef = (Value.agg #[(Value.int .i64 2), (Value.int .i64 0), (Value.string (bs s))])) ∧ (a.tmps.getD 41 undef = (Value.agg #[(Value.int .i64 2), (Value.int .i64 0), (Value.string (bs s))])) ∧ (a.tmps.getD 42 undef = (Value.bool true)) ∧ (a.tmps.getD 43 undef = (Value.bool (decide (s.length ≤ 30) && (s.take i).all okB))) ∧ (a.tmps.getD 44 undef = (Value.bool false)) ∧ (a.tmps.getD 45 undef = (Value.tuple #[(Value.agg #[(Value.int .i64 (takeV (([2] ++ s) ++ [0])).1.k), (Value.int .i64 (takeV (([2] ++ s) ++ [0])).1.n), (Value.string (bs (takeV (([2] ++ s) ++ [0])).1.s))]), (Value.int .i64 (takeV (([2] ++ s) ++ [0])).2.1), (Value.int .i64 (takeV (([2] ++ s) ++ [0])).2.2)])) ∧ (a.tmps.getD 46 undef = (Value.slice (some ⟨b160, 0, none⟩) 1 1)) ∧ (a.tmps.getD 47 undef = (Value.string (bs s))) ∧ (a.tmps.getD 48 undef = v163) ∧ (a.tmps.getD 49 undef = (Value.slice (some ⟨b170, 0, none⟩) 1 1)) ∧ (a.tmps.getD 50 undef = v173) ∧ (a.tmps.getD 51 undef = (Value.tuple #[(Value.agg #[(Value.int .i64 (takeV (([2] ++ s) ++ [0])).1.k), (Value.int .i64 (takeV (([2] ++ s) ++ [0])).1.n), (Value.string (bs (takeV (([2] ++ s) ++ [0])).1.s))]), (Value.int .i64 (takeV (([2] ++ s) ++ [0])).2.1), (Value.int .i64 (takeV (([2] ++ s) ++ [0])).2.2)])) ∧ (a.tmps.getD 52 undef = (Value.agg #[(Value.int .i64 (takeV (([2] ++ s) ++ [0])).1.k), (Value.int .i64 (takeV (([2] ++ s) ++ [0])).1.n), (Value.string (bs (takeV (([2] ++ s) ++ [0])).1.s))])) ∧ (a.tmps.getD 53 undef = (Value.int .i64 (takeV (([2] ++ s) ++ [0])).2.1)) ∧ (a.tmps.getD 54 undef = (Value.int .i64 (takeV (([2] ++ s) ++ [0])).2.2)) ∧ (a.tmps.getD 55 undef = (Value.string (bs s))) ∧ (a.tmps.getD 56 undef = (Value.int .i64 (s.length : Int))) ∧ (a.tmps.getD 10 undef = (Value.int .i64 ((j : Nat) : Int))) ∧ (a.tmps.getD 9 undef = (Value.int .i64 (((cutT s j) : Nat) : Int))) ∧ (j ≤ s.length) ∧ w188 = w') _ hN141 hd141 ⟨0, rfl, (sl_base hN141 rfl s141_0), (sl_base hN141 rfl s141_2), (sl_base hN141 rfl s141_3), (sl_base hN141 rfl s141_4), (sl_hit hN141 rfl), (sl_hit hN141 rfl), (sl_hit hN141 rfl), (sl_hit hN141 rfl), (sl_base hN141 rfl s141_12), (sl_base hN141 rfl s141_13), (sl_base hN141 rfl s141_14), (sl_base hN141 rfl s141_15), (sl_base hN141 rfl s141_16), (sl_base hN141 rfl s141_17), (sl_base hN141 rfl s141_18), (sl_base hN141 rfl s141_19), (sl_hit hN141 rfl), (sl_hit hN141 rfl), (sl_hit hN141 rfl), (sl_hit hN141 rfl), (sl_hit hN141 rfl), (sl_hit hN141 rfl), (sl_hit hN141 rfl), (sl_hit hN141 rfl), (sl_hit hN141 rfl), (sl_hit hN141 rfl), (sl_hit hN141 rfl), (sl_hit hN141 rfl), (sl_hit hN141 rfl), (sl_hit hN141 rfl), (sl_hit hN141 rfl), (sl_hit hN141 rfl), (sl_hit hN141 rfl), (sl_hit hN141 rfl), (sl_hit hN141 rfl), (sl_hit hN141 rfl), (sl_hit hN141 rfl), (sl_hit hN141 rfl), (sl_hit hN141 rfl), (sl_hit hN141 rfl).trans (congrArg (fun q : Nat => Value.int .i64 (q : Int)) (by simp [cutT])), Nat.zero_le _, rfl⟩ ?_
            rintro _ a193 _ hN193 hd193 ⟨j, rfl, s193_0, s193_2, s193_3, s193_4, s193_5, s193_6, s193_7, s193_8, s193_12, s193_13, s193_14, s193_15, s193_16, s193_17, s193_18, s193_19, s193_20, s193_21, s193_22, s193_23, s193_39, s193_40, s193_41, s193_42, s193_43, s193_44, s193_45, s193_46, s193_47, s193_48, s193_49, s193_50, s193_51, s193_52, s193_53, s193_54, s193_55, s193_56, s193_10, s193_9, hj, rfl⟩
            refine seq_any fun K194 hK194 => ?_
            refine seq_any fun K195 hK195 => ?_
            refine one_reg ?_
            refine op_move (ev_base hN193 rfl s193_10) ?_
            refine op_move (ev_base hN193 rfl s193_0) ?_
            refine op_len_str Try.underlying9 (ev_hit hN193 rfl) ?_
            refine op_lss (ev_hit hN193 rfl) (ev_hit hN193 rfl) (fun c60 => ?_) (fun c60 => ?_)
            · -- 60 True
              refine reg_nil ?_
              refine hK195 _ _ ?_
              refine wp_cond_true (ev_hit hN193 rfl) ?_
              refine wp_skip ?_
              refine hK194 _ _ ?_
              refine seq_any fun K196 hK196 => ?_
              refine wp_block ?_
              refine seq_any fun K197 hK197 => ?_
              refine one_reg ?_
              refine op_move (ev_base hN193 rfl s193_0) ?_
              refine op_move (ev_base hN193 rfl s193_10) ?_
              refine op_index_str (b := (s.getD j 0)) Try.underlying9 (ev_hit hN193 rfl) (ev_hit hN193 rfl) (by omega) (el_str (i := j) (by omega) (by omega)) ?_
              refine op_eql (ev_hit hN193 rfl) rfl (fun c66 => ?_) (fun c66 => ?_)
              · -- 66 True
                refine reg_nil ?_
                refine hK197 _ _ ?_
                refine wp_cond_true (ev_hit hN193 rfl) ?_
                refine one_reg ?_
                refine op_move (ev_base hN193 rfl s193_9) ?_
                refine op_move (ev_base hN193 rfl s193_10) ?_
                refine op_min (r := ((cutT s (j + 1) : Nat) : Int)) (ev_hit hN193 rfl) (ev_hit hN193 rfl) (by rw [← cutT_hit (i := j) (by omega) (by omega)]; omega) ?_
                refine op_assign (ev_hit hN193 rfl) ?_
                refine reg_nil ?_
                refine hK196 _ _ ?_
                refine one_reg ?_
                refine op_move (ev_base hN193 rfl s193_10) ?_
                refine op_add (ev_hit hN193 rfl) rfl (add64 (by omega)) ?_
                refine op_assign (ev_hit hN193 rfl) ?_
                refine reg_nil ?_
                -- round 16F 19F 23F 42T 44F 60T 66T
                exact loop_next _ hN193 hd193 ⟨j + 1, rfl, (sl_base hN193 rfl s193_0), (sl_base hN193 rfl s193_2), (sl_base hN193 rfl s193_3), (sl_base hN193 rfl s193_4), (sl_base hN193 rfl s193_5), (sl_base hN193 rfl s193_6), (sl_base hN193 rfl s193_7), (sl_base hN193 rfl s193_8), (sl_base hN193 rfl s193_12), (sl_base hN193 rfl s193_13), (sl_base hN193 rfl s193_14), (sl_base hN193 rfl s193_15), (sl_base hN193 rfl s193_16), (sl_base hN193 rfl s193_17), (sl_base hN193 rfl s193_18), (sl_base hN193 rfl s193_19), (sl_base hN193 rfl s193_20), (sl_base hN193 rfl s193_21), (sl_base hN193 rfl s193_22), (sl_base hN193 rfl s193_23), (sl_base hN193 rfl s193_39), (sl_base hN193 rfl s193_40), (sl_base hN193 rfl s193_41), (sl_base hN193 rfl s193_42), (sl_base hN193 rfl s193_43), (sl_base hN193 rfl s193_44), (sl_base hN193 rfl s193_45), (sl_base hN193 rfl s193_46), (sl_base hN193 rfl s193_47), (sl_base hN193 rfl s193_48), (sl_base hN193 rfl s193_49), (sl_base hN193 rfl s193_50), (sl_base hN193 rfl s193_51), (sl_base hN193 rfl s193_52), (sl_base hN193 rfl s193_53), (sl_base hN193 rfl s193_54), (sl_base hN193 rfl s193_55), (sl_base hN193 rfl s193_56), (sl_hit hN193 rfl).trans (congrArg (Value.int .i64) (by omega)), (sl_hit hN193 rfl).trans (congrArg (fun q : Nat => Value.int .i64 (q : Int)) (rfl)), (by omega), rfl⟩ (by omega)
              · -- 66 False
                refine reg_nil ?_
                refine hK197 _ _ ?_
                refine wp_cond_false (ev_hit hN193 rfl) ?_
                refine wp_skip ?_
                refine hK196 _ _ ?_
                refine one_reg ?_
                refine op_move (ev_base hN193 rfl s193_10) ?_
                refine op_add (ev_hit hN193 rfl) rfl (add64 (by omega)) ?_
                refine op_assign (ev_hit hN193 rfl) ?_
                refine reg_nil ?_
                -- round 16F 19F 23F 42T 44F 60T 66F
                exact loop_next _ hN193 hd193 ⟨j + 1, rfl, (sl_base hN193 rfl s193_0), (sl_base hN193 rfl s193_2), (sl_base hN193 rfl s193_3), (sl_base hN193 rfl s193_4), (sl_base hN193 rfl s193_5), (sl_base hN193 rfl s193_6), (sl_base hN193 rfl s193_7), (sl_base hN193 rfl s193_8), (sl_base hN193 rfl s193_12), (sl_base hN193 rfl s193_13), (sl_base hN193 rfl s193_14), (sl_base hN193 rfl s193_15), (sl_base hN193 rfl s193_16), (sl_base hN193 rfl s193_17), (sl_base hN193 rfl s193_18), (sl_base hN193 rfl s193_19), (sl_base hN193 rfl s193_20), (sl_base hN193 rfl s193_21), (sl_base hN193 rfl s193_22), (sl_base hN193 rfl s193_23), (sl_base hN193 rfl s193_39), (sl_base hN193 rfl s193_40), (sl_base hN193 rfl s193_41), (sl_base hN193 rfl s193_42), (sl_base hN193 rfl s193_43), (sl_base hN193 rfl s193_44), (sl_base hN193 rfl s193_45), (sl_base hN193 rfl s193_46), (sl_base hN193 rfl s193_47), (sl_base hN193 rfl s193_48), (sl_base hN193 rfl s193_49), (sl_base hN193 rfl s193_50), (sl_base hN193 rfl s193_51), (sl_base hN193 rfl s193_52), (sl_base hN193 rfl s193_53), (sl_base hN193 rfl s193_54), (sl_base hN193 rfl s193_55), (sl_base hN193 rfl s193_56), (sl_hit hN193 rfl).trans (congrArg (Value.int .i64) (by omega)), (sl_base hN193 rfl s193_9).trans (congrArg (fun q : Nat => Value.int .i64 (q : Int)) (cutT_miss (by omega) (by omega))), (by omega), rfl⟩ (by omega)
            · -- 60 False
              refine reg_nil ?_
              refine hK195 _ _ ?_
              refine wp_cond_false (ev_hit hN193 rfl) ?_
              refine wp_exit (then_exit (then_exit (blk_hit ?_)))
              refine hK191 _ _ ?_
              refine seq_any fun K198 hK198 => ?_
              refine one_reg ?_
              have hcut : cutT s j = zf s := cutT_end (by omega)
              have hzl := zf_le s
              have htk : takeV ([2] ++ s ++ [0]) = _ := take_text (s := s)
              refine op_move (ev_base hN193 rfl s193_0) ?_
              refine op_move (ev_base hN193 rfl s193_9) ?_
              refine op_slice_str (lo := 0) (hi := ((cutT s j))) Try.underlying9 (ev_hit hN193 rfl) (.inl ⟨rfl, rfl⟩) (.inr ⟨_, _, rfl, (ev_hit hN193 rfl)⟩) (by omega) (by omega) ?_
              refine op_build (pv := [(0, (Value.int .i64 2)), (2, (Value.string (bs ((s.drop 0).take (((cutT s j)) - 0)))))]) (v := (Value.agg #[(Value.int .i64 2), (Value.int .i64 0), (Value.string (bs ((s.drop 0).take (((cutT s j)) - 0))))])) ⟨rfl, rfl, ⟨rfl, (ev_hit hN193 rfl), trivial⟩⟩ (by kernel_rfl) ?_
              refine op_alloc (cs := [(Value.int .i64 0), (Value.int .i64 0), (Value.string (bs []))]) zero50 rfl ?_
              intro w199 b200 lo_b200 hi_b200 hB202 E201
              have z_w199 := E201.size
              have hB149 := hB149.keep0 E201
              have hO176 := hO176.keep0 E201
              have hB185 := hB185.keep0 E201
              have hb := below_step0 hb E201 hb.size
              have hB202_old := hB202
              refine op_store (vs := [(Value.int .i64 2), (Value.int .i64 0), (Value.string (bs ((s.drop 0).take (((cutT s j)) - 0))))]) (cs' := [(Value.int .i64 2), (Value.int .i64 0), (Value.string (bs ((s.drop 0).take (((cutT s j)) - 0))))]) size50 (ev_hit hN193 rfl) (ev_hit hN193 rfl) rfl rfl rfl hB202 (Nat.le_of_ble_eq_true rfl) rfl ?_
              intro w205 hB202 E206
              have z_w205 := E206.size
              have hB149 := hB149.keep E206 (by simp; omega)
              have hO176 := hO176.keepX hB202_old E206 (by decide)
              have hB185 := hB185.keep E206 (by simp; omega)
              have hb := below_step1 hb E206 hb.size (by omega)
              refine reg_nil ?_
              refine hK198 _ _ ?_
              refine seq_any fun K207 hK207 => ?_
              refine seq_any fun K208 hK208 => ?_
              refine one_reg ?_
              refine op_loadA (cs := [(Value.int .i64 2), (Value.int .i64 0), (Value.string (bs ((s.drop 0).take (((cutT s j)) - 0))))]) agg50 rfl (ev_hit hN193 rfl) (fun j u hu => by rw [Nat.zero_add]; exact hB202.cell hu) ?_
              refine op_fn (vs := [(Value.agg #[(Value.int .i64 2), (Value.int .i64 0), (Value.string (bs ((s.drop 0).take (((cutT s j)) - 0))))])]) ok31 ⟨(ev_hit hN193 rfl), trivial⟩ (May_ret ⟨2, 0, ((s.drop 0).take (((cutT s j)) - 0))⟩ _ (by first | assumption | omega | (simp only [List.length_append, List.length_cons, List.length_nil, List.length_drop, List.length_take]; omega) | (dsimp only; omega) | decide | (simp [keyV, be8_len]; done))) ?_
              rintro _ w209 ⟨E210, rfl⟩
              have E210 := grown_of_below E210
              have z_w209 := E210.size
              have hB149 := hB149.keep0 E210
              have hO176 := hO176.keep0 E210
              have hB185 := hB185.keep0 E210
              have hB202 := hB202.keep0 E210
              have hb := below_step0 hb E210 hb.size
              rcases Bool.eq_false_or_eq_true ((mayV ⟨2, 0, ((s.drop 0).take (((cutT s j)) - 0))⟩)) with c75 | c75
              · -- 75 True
                rw [c75]
                refine op_not (ev_hit hN193 rfl) ?_
                refine reg_nil ?_
                refine hK208 _ _ ?_
                refine wp_cond_false (ev_hit hN193 rfl) ?_
                refine wp_skip ?_
                refine hK207 _ _ ?_
                refine seq_any fun K211 hK211 => ?_
                refine one_reg ?_
                refine op_move (ev_base hN193 rfl s193_8) ?_
                refine op_eql (ev_hit hN193 rfl) rfl (fun c84 => ?_) (fun c84 => ?_)
                · -- 84 True
                  refine op_move (ev_hit hN193 rfl) ?_
                  refine g_true (j := 2) (dj := 85) (b := true) rfl rfl rfl (ev_hit hN193 rfl) ?_
                  refine op_loadA (cs := [(Value.int .i64 (takeV (([2] ++ s) ++ [0])).1.k), (Value.int .i64 (takeV (([2] ++ s) ++ [0])).1.n), (Value.string (bs (takeV (([2] ++ s) ++ [0])).1.s))]) agg50 rfl (ev_base hN193 rfl s193_6) (fun j u hu => by rw [Nat.zero_add]; exact hB185.cell hu) ?_
                  refine g_true (j := 2) (dj := 85) (b := true) rfl rfl rfl (ev_hit hN193 rfl) ?_
                  refine op_loadA (cs := [(Value.int .i64 2), (Value.int .i64 0), (Value.string (bs ((s.drop 0).take (((cutT s j)) - 0))))]) agg50 rfl (ev_hit hN193 rfl) (fun j u hu => by rw [Nat.zero_add]; exact hB202.cell hu) ?_
                  refine g_true (j := 2) (dj := 85) (b := true) rfl rfl rfl (ev_hit hN193 rfl) ?_
                  by_cases c88 : (takeV (([2] ++ s) ++ [0])).1.k = 2 ∧ (takeV (([2] ++ s) ++ [0])).1.n = 0 ∧ (takeV (([2] ++ s) ++ [0])).1.s = ((s.drop 0).take (((cutT s j)) - 0))
                  · -- 88 True
                    refine op_aeql (xs := [(Value.int .i64 (takeV (([2] ++ s) ++ [0])).1.k), (Value.int .i64 (takeV (([2] ++ s) ++ [0])).1.n), (Value.string (bs (takeV (([2] ++ s) ++ [0])).1.s))]) (ys := [(Value.int .i64 2), (Value.int .i64 0), (Value.string (bs ((s.drop 0).take (((cutT s j)) - 0))))]) (b' := true) (ev_hit hN193 rfl) (ev_hit hN193 rfl) (eq50 (takeV (([2] ++ s) ++ [0])).1.k 2 (takeV (([2] ++ s) ++ [0])).1.n 0 (takeV (([2] ++ s) ++ [0])).1.s ((s.drop 0).take (((cutT s j)) - 0))) (decide_eq_true c88) ?_
                    refine op_pick_t (ev_hit hN193 rfl) (ev_hit hN193 rfl) ?_
                    refine op_move (ev_hit hN193 rfl) ?_
                    refine g_true (j := 7) (dj := 90) (b := true) rfl rfl rfl (ev_hit hN193 rfl) ?_
                    refine op_move (ev_base hN193 rfl s193_7) ?_
                    refine g_true (j := 7) (dj := 90) (b := true) rfl rfl rfl (ev_hit hN193 rfl) ?_
                    refine op_move (ev_base hN193 rfl s193_9) ?_
                    refine g_true (j := 7) (dj := 90) (b := true) rfl rfl rfl (ev_hit hN193 rfl) ?_
                    refine op_add (ev_hit hN193 rfl) rfl (add64 (by omega)) ?_
                    refine g_true (j := 7) (dj := 90) (b := true) rfl rfl rfl (ev_hit hN193 rfl) ?_
                    refine op_eql (ev_hit hN193 rfl) (ev_hit hN193 rfl) (fun c94 => ?_) (fun c94 => ?_)
                    · -- 94 True
                      refine op_pick_t (ev_hit hN193 rfl) (ev_hit hN193 rfl) ?_
                      refine op_assign (ev_hit hN193 rfl) ?_
                      refine reg_nil ?_
                      refine hK211 _ _ ?_
                      refine wp_ret ?_
                      refine ret1 rfl hd193 (ev_hit hN193 rfl) ⟨_, rfl, ?_⟩
                      -- path 16F 19F 23F 42T 44F 60F 75T 84T 88T 94T
                      exact ⟨hb, rfl⟩
                    · -- 94 False
                      exact absurd (by rw [htk, if_pos (by rw [hcut] at c75; simpa using c75)]; rw [hcut]) c94
                  · -- 88 False
                    exact absurd (by rw [htk, if_pos (by rw [hcut] at c75; simpa using c75)]; rw [hcut]; simp) c88
                · -- 84 False
                  exact absurd (by rw [htk, if_pos (by rw [hcut] at c75; simpa using c75)]) c84
              · -- 75 False
                rw [c75]
                refine op_not (ev_hit hN193 rfl) ?_
                refine reg_nil ?_
                refine hK208 _ _ ?_
                refine wp_cond_true (ev_hit hN193 rfl) ?_
                refine seq_any fun K212 hK212 => ?_
                refine one_reg ?_
                refine op_move (ev_base hN193 rfl s193_8) ?_
                refine op_eql (ev_hit hN193 rfl) rfl (fun c78 => ?_) (fun c78 => ?_)
                · -- 78 True
                  refine op_move (ev_hit hN193 rfl) ?_
                  refine g_true (j := 2) (dj := 79) (b := true) rfl rfl rfl (ev_hit hN193 rfl) ?_
                  refine op_move (ev_base hN193 rfl s193_7) ?_
                  refine g_true (j := 2) (dj := 79) (b := true) rfl rfl rfl (ev_hit hN193 rfl) ?_
                  refine op_eql (ev_hit hN193 rfl) rfl (fun c81 => ?_) (fun c81 => ?_)
                  · -- 81 True
                    refine op_pick_t (ev_hit hN193 rfl) (ev_hit hN193 rfl) ?_
                    refine op_assign (ev_hit hN193 rfl) ?_
                    refine reg_nil ?_
                    refine hK212 _ _ ?_
                    refine wp_ret (then_ret ( ?_))
                    refine ret1 rfl hd193 (ev_hit hN193 rfl) ⟨_, rfl, ?_⟩
                    -- path 16F 19F 23F 42T 44F 60F 75F 78T 81T
                    exact ⟨hb, rfl⟩
                  · -- 81 False
                    exact absurd (by rw [htk, if_neg (by rw [hcut] at c75; simpa using c75)]) c81
                · -- 78 False
                  exact absurd (by rw [htk, if_neg (by rw [hcut] at c75; simpa using c75)]) c78
        · -- 42 False
          rw [c42]
          refine op_move (ev_base hN141 rfl s141_3) ?_
          refine op_neb Try.underlying4 (ev_hit hN141 rfl) (ev_hit hN141 rfl) ?_
          rcases Bool.eq_false_or_eq_true ((false != (decide (s.length ≤ 30) && (s.take i).all okB))) with c44 | c44
          · -- 44 True
            exact absurd c44 (by rw [vt_end (by omega)]; simp [*])
          · -- 44 False
            rw [c44]
            refine reg_nil ?_
            refine hK155 _ _ ?_
            refine wp_cond_false (ev_hit hN141 rfl) ?_
            refine wp_skip ?_
            refine hK154 _ _ ?_
            refine seq_any fun K213 hK213 => ?_
            refine one_reg ?_
            refine op_bslice (e := 5) (pv := [(0, (Value.int .u8 2))]) (cs := [(Value.int .u8 2)]) ⟨rfl, rfl, trivial⟩ (by kernel_rfl) ?_
            intro w214 b215 lo_b215 hi_b215 hB217 E216
            have z_w214 := E216.size
            have hB149 := hB149.keep0 E216
            have hb := below_step0 hb E216 hb.size
            refine op_move (ev_base hN141 rfl s141_0) ?_
            have hP223 := (Own.ofBx (base := w.heap.size) (sz := 1) (n := 1) hB217 rfl (by decide) (by omega))
            refine op_append slt22 (ev_hit hN141 rfl) hP223 (ev_hit hN141 rfl) (Src.ofBs Try.underlying9 s) (by unfold maxLen; omega) (by omega) hb.size ?_
            intro v218 w219 hO221 E220 hm222
            have z_w219 := E220.size
            have hB149 := hB149.keepO hP223 E220 (by decide)
            have hb := below_stepO hb hP223 E220 hb.size (by omega)
            have hO221 : Own w219 w.heap.size 5 1 v218 (1 + s.length) ((([2] ++ s)).map u8v) := by simpa [u8v] using hO221
            refine op_bslice (e := 5) (pv := [(0, (Value.int .u8 0))]) (cs := [(Value.int .u8 0)]) ⟨rfl, rfl, trivial⟩ (by kernel_rfl) ?_
            intro w224 b225 lo_b225 hi_b225 hB227 E226
            have z_w224 := E226.size
            have hB149 := hB149.keep0 E226
            have hO221 := hO221.keep0 E226
            have hb := below_step0 hb E226 hb.size
            have hP233 := hO221
            refine op_append slt22 (ev_hit hN141 rfl) hP233 (ev_hit hN141 rfl) (Src.ofRd Try.underlying22 (by decide) (RdC.ofBx (sz := 1) (n := 1) hB227 rfl (by decide)) (by simp [Value.oneCell', u8v])) (by unfold maxLen; omega) (by omega) hb.size ?_
            intro v228 w229 hO231 E230 hm232
            have z_w229 := E230.size
            have hB149 := hB149.keepO hP233 E230 (by decide)
            have hb := below_stepO hb hP233 E230 hb.size (by omega)
            have hO231 : Own w229 w.heap.size 5 1 v228 ((1 + s.length) + 1) (((([2] ++ s) ++ [0])).map u8v) := by simpa [u8v] using hO231
            have hq234 : RdC w229 0 w229.heap.size 1 v228 (([2] ++ s) ++ [0]).length ((([2] ++ s) ++ [0]).map u8v) := by have hh : RdC w229 0 w229.heap.size 1 _ _ _ := (hO231.rdw.mono (L' := 0) (B' := w229.heap.size) (Nat.zero_le _) (by omega)); first | simpa using hh | simpa [Nat.add_comm, Nat.add_left_comm, Nat.add_assoc] using hh
            refine op_fn (vs := [v228]) ok40 ⟨(ev_hit hN141 rfl), trivial⟩ (Take_ret (([2] ++ s) ++ [0]) v228 _ (by first | assumption | omega | (simp only [List.length_append, List.length_cons, List.length_nil, List.length_drop, List.length_take]; omega) | (dsimp only; omega) | decide | (simp [keyV, be8_len]; done)) hq234) ?_
            rintro _ w235 ⟨E236, rfl⟩
            have E236 := grown_of_below E236
            have z_w235 := E236.size
            have hB149 := hB149.keep0 E236
            have hO231 := hO231.keep0 E236
            have hb := below_step0 hb E236 hb.size
            refine op_move (ev_hit hN141 rfl) ?_
            refine op_extract (ev_hit hN141 rfl) rfl ?_
            refine op_extract (ev_hit hN141 rfl) rfl ?_
            refine op_extract (ev_hit hN141 rfl) rfl ?_
            refine op_alloc (cs := [(Value.int .i64 0), (Value.int .i64 0), (Value.string (bs []))]) zero50 rfl ?_
            intro w237 b238 lo_b238 hi_b238 hB240 E239
            have z_w237 := E239.size
            have hB149 := hB149.keep0 E239
            have hO231 := hO231.keep0 E239
            have hb := below_step0 hb E239 hb.size
            have hB240_old := hB240
            refine op_store (vs := [(Value.int .i64 (takeV (([2] ++ s) ++ [0])).1.k), (Value.int .i64 (takeV (([2] ++ s) ++ [0])).1.n), (Value.string (bs (takeV (([2] ++ s) ++ [0])).1.s))]) (cs' := [(Value.int .i64 (takeV (([2] ++ s) ++ [0])).1.k), (Value.int .i64 (takeV (([2] ++ s) ++ [0])).1.n), (Value.string (bs (takeV (([2] ++ s) ++ [0])).1.s))]) size50 (ev_hit hN141 rfl) (ev_hit hN141 rfl) rfl rfl rfl hB240 (Nat.le_of_ble_eq_true rfl) rfl ?_
            intro w243 hB240 E244
            have z_w243 := E244.size
            have hB149 := hB149.keep E244 (by simp; omega)
            have hO231 := hO231.keepX hB240_old E244 (by decide)
            have hb := below_step1 hb E244 hb.size (by omega)
            refine op_assign (ev_hit hN141 rfl) ?_
            refine op_assign (ev_hit hN141 rfl) ?_
            refine reg_nil ?_
            refine hK213 _ _ ?_
            refine seq_any fun K245 hK245 => ?_
            refine one_reg ?_
            refine op_move (ev_base hN141 rfl s141_0) ?_
            refine op_len_str Try.underlying9 (ev_hit hN141 rfl) ?_
            refine op_assign (ev_hit hN141 rfl) ?_
            refine reg_nil ?_
            refine hK245 _ _ ?_
            refine seq_any fun K246 hK246 => ?_
            refine seq_any fun K247 hK247 => ?_
            refine one_reg ?_
            refine op_assign rfl ?_
            refine reg_nil ?_
            refine hK247 _ _ ?_
            refine wp_block ?_
            refine loop_m (fun m a w' => ∃ (j : Nat), m = s.length - j ∧ (a.tmps.getD 0 undef = (Value.string (bs s))) ∧ (a.tmps.getD 2 undef = (Value.bool false)) ∧ (a.tmps.getD 3 undef = (Value.bool (decide (s.length ≤ 30) && (s.take i).all okB))) ∧ (a.tmps.getD 4 undef = (Value.int .i64 ((i : Nat) : Int))) ∧ (a.tmps.getD 5 undef = (ptr b147 0)) ∧ (a.tmps.getD 6 undef = (ptr b238 0)) ∧ (a.tmps.getD 7 undef = (Value.int .i64 (takeV (([2] ++ s) ++ [0])).2.1)) ∧ (a.tmps.getD 8 undef = (Value.int .i64 (takeV (([2] ++ s) ++ [0])).2.2)) ∧ (a.tmps.getD 12 undef = (Value.bool true)) ∧ (a.tmps.getD 13 undef = (Value.bool false)) ∧ (a.tmps.getD 14 undef = (Value.string (bs s))) ∧ (a.tmps.getD 15 undef = (Value.int .i64 (s.length : Int))) ∧ (a.tmps.getD 16 undef = (Value.bool false)) ∧ (a.tmps.getD 17 undef = (Value.string (bs s))) ∧ (a.tmps.getD 18 undef = (Value.int .i64 (s.length : Int))) ∧ (a.tmps.getD 19 undef = (Value.bool false)) ∧ (a.tmps.getD 20 undef = (Value.int .i64 ((i : Nat) : Int))) ∧ (a.tmps.getD 21 undef = (Value.string (bs s))) ∧ (a.tmps.getD 22 undef = (Value.int .i64 (s.length : Int))) ∧ (a.tmps.getD 23 undef = (Value.bool false)) ∧ (a.tmps.getD 39 undef = (Value.string (bs s))) ∧ (a.tmps.getD 40 undef = (Value.agg #[(Value.int .i64 2), (Value.int .i64 0), (Value.string (bs s))])) ∧ (a.tmps.getD 41 undef = (Value.agg #[(Value.int .i64 2), (Value.int .i64 0), (Value.string (bs s))])) ∧ (a.tmps.getD 42 undef = (Value.bool false)) ∧ (a.tmps.getD 43 undef = (Value.bool (decide (s.length ≤ 30) && (s.take i).all okB))) ∧ (a.tmps.getD 44 undef = (Value.bool false)) ∧ (a.tmps.getD 45 undef = (Value.tuple #[(Value.agg #[(Value.int .i64 (takeV (([2] ++ s) ++ [0])).1.k), (Value.int .i64 (takeV (([2] ++ s) ++ [0])).1.n), (Value.string (bs (takeV (([2] ++ s) ++ [0])).1.s))]), (Value.int .i64 (takeV (([2] ++ s) ++ [0])).2.1), (Value.int .i64 (takeV (([2] ++ s) ++ [0])).2.2)])) ∧ (a.tmps.getD 46 undef = (Value.slice (some ⟨b215, 0, none⟩) 1 1)) ∧ (a.tmps.getD 47 undef = (Value.string (bs s))) ∧ (a.tmps.getD 48 undef = v218) ∧ (a.tmps.getD 49 undef = (Value.slice (some ⟨b225, 0, none⟩) 1 1)) ∧ (a.tmps.getD 50 undef = v228) ∧ (a.tmps.getD 51 undef = (Value.tuple #[(Value.agg #[(Value.int .i64 (takeV (([2] ++ s) ++ [0])).1.k), (Value.int .i64 (takeV (([2] ++ s) ++ [0])).1.n), (Value.string (bs (takeV (([2] ++ s) ++ [0])).1.s))]), (Value.int .i64 (takeV (([2] ++ s) ++ [0])).2.1), (Value.int .i64 (takeV (([2] ++ s) ++ [0])).2.2)])) ∧ (a.tmps.getD 52 undef = (Value.agg #[(Value.int .i64 (takeV (([2] ++ s) ++ [0])).1.k), (Value.int .i64 (takeV (([2] ++ s) ++ [0])).1.n), (Value.string (bs (takeV (([2] ++ s) ++ [0])).1.s))])) ∧ (a.tmps.getD 53 undef = (Value.int .i64 (takeV (([2] ++ s) ++ [0])).2.1)) ∧ (a.tmps.getD 54 undef = (Value.int .i64 (takeV (([2] ++ s) ++ [0])).2.2)) ∧ (a.tmps.getD 55 undef = (Value.string (bs s))) ∧ (a.tmps.getD 56 undef = (Value.int .i64 (s.length : Int))) ∧ (a.tmps.getD 10 undef = (Value.int .i64 ((j : Nat) : Int))) ∧ (a.tmps.getD 9 undef = (Value.int .i64 (((cutT s j) : Nat) : Int))) ∧ (j ≤ s.length) ∧ w243 = w') _ hN141 hd141 ⟨0, rfl, (sl_base hN141 rfl s141_0), (sl_base hN141 rfl s141_2), (sl_base hN141 rfl s141_3), (sl_base hN141 rfl s141_4), (sl_hit hN141 rfl), (sl_hit hN141 rfl), (sl_hit hN141 rfl), (sl_hit hN141 rfl), (sl_base hN141 rfl s141_12), (sl_base hN141 rfl s141_13), (sl_base hN141 rfl s141_14), (sl_base hN141 rfl s141_15), (sl_base hN141 rfl s141_16), (sl_base hN141 rfl s141_17), (sl_base hN141 rfl s141_18), (sl_base hN141 rfl s141_19), (sl_hit hN141 rfl), (sl_hit hN141 rfl), (sl_hit hN141 rfl), (sl_hit hN141 rfl), (sl_hit hN141 rfl), (sl_hit hN141 rfl), (sl_hit hN141 rfl), (sl_hit hN141 rfl), (sl_hit hN141 rfl), (sl_hit hN141 rfl), (sl_hit hN141 rfl), (sl_hit hN141 rfl), (sl_hit hN141 rfl), (sl_hit hN141 rfl), (sl_hit hN141 rfl), (sl_hit hN141 rfl), (sl_hit hN141 rfl), (sl_hit hN141 rfl), (sl_hit hN141 rfl), (sl_hit hN141 rfl), (sl_hit hN141 rfl), (sl_hit hN141 rfl), (sl_hit hN141 rfl), (sl_hit hN141 rfl).trans (congrArg (fun q : Nat => Value.int .i64 (q : Int)) (by simp [cutT])), Nat.zero_le _, rfl⟩ ?_
            rintro _ a248 _ hN248 hd248 ⟨j, rfl, s248_0, s248_2, s248_3, s248_4, s248_5, s248_6, s248_7, s248_8, s248_12, s248_13, s248_14, s248_15, s248_16, s248_17, s248_18, s248_19, s248_20, s248_21, s248_22, s248_23, s248_39, s248_40, s248_41, s248_42, s248_43, s248_44, s248_45, s248_46, s248_47, s248_48, s248_49, s248_50, s248_51, s248_52, s248_53, s248_54, s248_55, s248_56, s248_10, s248_9, hj, rfl⟩
            refine seq_any fun K249 hK249 => ?_
            refine seq_any fun K250 hK250 => ?_
            refine one_reg ?_
            refine op_move (ev_base hN248 rfl s248_10) ?_
            refine op_move (ev_base hN248 rfl s248_0) ?_
            refine op_len_str Try.underlying9 (ev_hit hN248 rfl) ?_
            refine op_lss (ev_hit hN248 rfl) (ev_hit hN248 rfl) (fun c60 => ?_) (fun c60 => ?_)
            · -- 60 True
              refine reg_nil ?_
              refine hK250 _ _ ?_
              refine wp_cond_true (ev_hit hN248 rfl) ?_
              refine wp_skip ?_
              refine hK249 _ _ ?_
              refine seq_any fun K251 hK251 => ?_
              refine wp_block ?_
              refine seq_any fun K252 hK252 => ?_
              refine one_reg ?_
              refine op_move (ev_base hN248 rfl s248_0) ?_
              refine op_move (ev_base hN248 rfl s248_10) ?_
              refine op_index_str (b := (s.getD j 0)) Try.underlying9 (ev_hit hN248 rfl) (ev_hit hN248 rfl) (by omega) (el_str (i := j) (by omega) (by omega)) ?_
              refine op_eql (ev_hit hN248 rfl) rfl (fun c66 => ?_) (fun c66 => ?_)
              · -- 66 True
                refine reg_nil ?_
                refine hK252 _ _ ?_
                refine wp_cond_true (ev_hit hN248 rfl) ?_
                refine one_reg ?_
                refine op_move (ev_base hN248 rfl s248_9) ?_
                refine op_move (ev_base hN248 rfl s248_10) ?_
                refine op_min (r := ((cutT s (j + 1) : Nat) : Int)) (ev_hit hN248 rfl) (ev_hit hN248 rfl) (by rw [← cutT_hit (i := j) (by omega) (by omega)]; omega) ?_
                refine op_assign (ev_hit hN248 rfl) ?_
                refine reg_nil ?_
                refine hK251 _ _ ?_
                refine one_reg ?_
                refine op_move (ev_base hN248 rfl s248_10) ?_
                refine op_add (ev_hit hN248 rfl) rfl (add64 (by omega)) ?_
                refine op_assign (ev_hit hN248 rfl) ?_
                refine reg_nil ?_
                -- round 16F 19F 23F 42F 44F 60T 66T
                exact loop_next _ hN248 hd248 ⟨j + 1, rfl, (sl_base hN248 rfl s248_0), (sl_base hN248 rfl s248_2), (sl_base hN248 rfl s248_3), (sl_base hN248 rfl s248_4), (sl_base hN248 rfl s248_5), (sl_base hN248 rfl s248_6), (sl_base hN248 rfl s248_7), (sl_base hN248 rfl s248_8), (sl_base hN248 rfl s248_12), (sl_base hN248 rfl s248_13), (sl_base hN248 rfl s248_14), (sl_base hN248 rfl s248_15), (sl_base hN248 rfl s248_16), (sl_base hN248 rfl s248_17), (sl_base hN248 rfl s248_18), (sl_base hN248 rfl s248_19), (sl_base hN248 rfl s248_20), (sl_base hN248 rfl s248_21), (sl_base hN248 rfl s248_22), (sl_base hN248 rfl s248_23), (sl_base hN248 rfl s248_39), (sl_base hN248 rfl s248_40), (sl_base hN248 rfl s248_41), (sl_base hN248 rfl s248_42), (sl_base hN248 rfl s248_43), (sl_base hN248 rfl s248_44), (sl_base hN248 rfl s248_45), (sl_base hN248 rfl s248_46), (sl_base hN248 rfl s248_47), (sl_base hN248 rfl s248_48), (sl_base hN248 rfl s248_49), (sl_base hN248 rfl s248_50), (sl_base hN248 rfl s248_51), (sl_base hN248 rfl s248_52), (sl_base hN248 rfl s248_53), (sl_base hN248 rfl s248_54), (sl_base hN248 rfl s248_55), (sl_base hN248 rfl s248_56), (sl_hit hN248 rfl).trans (congrArg (Value.int .i64) (by omega)), (sl_hit hN248 rfl).trans (congrArg (fun q : Nat => Value.int .i64 (q : Int)) (rfl)), (by omega), rfl⟩ (by omega)
              · -- 66 False
                refine reg_nil ?_
                refine hK252 _ _ ?_
                refine wp_cond_false (ev_hit hN248 rfl) ?_
                refine wp_skip ?_
                refine hK251 _ _ ?_
                refine one_reg ?_
                refine op_move (ev_base hN248 rfl s248_10) ?_
                refine op_add (ev_hit hN248 rfl) rfl (add64 (by omega)) ?_
                refine op_assign (ev_hit hN248 rfl) ?_
                refine reg_nil ?_
                -- round 16F 19F 23F 42F 44F 60T 66F
                exact loop_next _ hN248 hd248 ⟨j + 1, rfl, (sl_base hN248 rfl s248_0), (sl_base hN248 rfl s248_2), (sl_base hN248 rfl s248_3), (sl_base hN248 rfl s248_4), (sl_base hN248 rfl s248_5), (sl_base hN248 rfl s248_6), (sl_base hN248 rfl s248_7), (sl_base hN248 rfl s248_8), (sl_base hN248 rfl s248_12), (sl_base hN248 rfl s248_13), (sl_base hN248 rfl s248_14), (sl_base hN248 rfl s248_15), (sl_base hN248 rfl s248_16), (sl_base hN248 rfl s248_17), (sl_base hN248 rfl s248_18), (sl_base hN248 rfl s248_19), (sl_base hN248 rfl s248_20), (sl_base hN248 rfl s248_21), (sl_base hN248 rfl s248_22), (sl_base hN248 rfl s248_23), (sl_base hN248 rfl s248_39), (sl_base hN248 rfl s248_40), (sl_base hN248 rfl s248_41), (sl_base hN248 rfl s248_42), (sl_base hN248 rfl s248_43), (sl_base hN248 rfl s248_44), (sl_base hN248 rfl s248_45), (sl_base hN248 rfl s248_46), (sl_base hN248 rfl s248_47), (sl_base hN248 rfl s248_48), (sl_base hN248 rfl s248_49), (sl_base hN248 rfl s248_50), (sl_base hN248 rfl s248_51), (sl_base hN248 rfl s248_52), (sl_base hN248 rfl s248_53), (sl_base hN248 rfl s248_54), (sl_base hN248 rfl s248_55), (sl_base hN248 rfl s248_56), (sl_hit hN248 rfl).trans (congrArg (Value.int .i64) (by omega)), (sl_base hN248 rfl s248_9).trans (congrArg (fun q : Nat => Value.int .i64 (q : Int)) (cutT_miss (by omega) (by omega))), (by omega), rfl⟩ (by omega)
            · -- 60 False
              refine reg_nil ?_
              refine hK250 _ _ ?_
              refine wp_cond_false (ev_hit hN248 rfl) ?_
              refine wp_exit (then_exit (then_exit (blk_hit ?_)))
              refine hK246 _ _ ?_
              refine seq_any fun K253 hK253 => ?_
              refine one_reg ?_
              have hcut : cutT s j = zf s := cutT_end (by omega)
              have hzl := zf_le s
              have htk : takeV ([2] ++ s ++ [0]) = _ := take_text (s := s)
              refine op_move (ev_base hN248 rfl s248_0) ?_
              refine op_move (ev_base hN248 rfl s248_9) ?_
              refine op_slice_str (lo := 0) (hi := ((cutT s j))) Try.underlying9 (ev_hit hN248 rfl) (.inl ⟨rfl, rfl⟩) (.inr ⟨_, _, rfl, (ev_hit hN248 rfl)⟩) (by omega) (by omega) ?_
              refine op_build (pv := [(0, (Value.int .i64 2)), (2, (Value.string (bs ((s.drop 0).take (((cutT s j)) - 0)))))]) (v := (Value.agg #[(Value.int .i64 2), (Value.int .i64 0), (Value.string (bs ((s.drop 0).take (((cutT s j)) - 0))))])) ⟨rfl, rfl, ⟨rfl, (ev_hit hN248 rfl), trivial⟩⟩ (by kernel_rfl) ?_
              refine op_alloc (cs := [(Value.int .i64 0), (Value.int .i64 0), (Value.string (bs []))]) zero50 rfl ?_
              intro w254 b255 lo_b255 hi_b255 hB257 E256
              have z_w254 := E256.size
              have hB149 := hB149.keep0 E256
              have hO231 := hO231.keep0 E256
              have hB240 := hB240.keep0 E256
              have hb := below_step0 hb E256 hb.size
              have hB257_old := hB257
              refine op_store (vs := [(Value.int .i64 2), (Value.int .i64 0), (Value.string (bs ((s.drop 0).take (((cutT s j)) - 0))))]) (cs' := [(Value.int .i64 2), (Value.int .i64 0), (Value.string (bs ((s.drop 0).take (((cutT s j)) - 0))))]) size50 (ev_hit hN248 rfl) (ev_hit hN248 rfl) rfl rfl rfl hB257 (Nat.le_of_ble_eq_true rfl) rfl ?_
              intro w260 hB257 E261
              have z_w260 := E261.size
              have hB149 := hB149.keep E261 (by simp; omega)
              have hO231 := hO231.keepX hB257_old E261 (by decide)
              have hB240 := hB240.keep E261 (by simp; omega)
              have hb := below_step1 hb E261 hb.size (by omega)
              refine reg_nil ?_
              refine hK253 _ _ ?_
              refine seq_any fun K262 hK262 => ?_
              refine seq_any fun K263 hK263 => ?_
              refine one_reg ?_
              refine op_loadA (cs := [(Value.int .i64 2), (Value.int .i64 0), (Value.string (bs ((s.drop 0).take (((cutT s j)) - 0))))]) agg50 rfl (ev_hit hN248 rfl) (fun j u hu => by rw [Nat.zero_add]; exact hB257.cell hu) ?_
              refine op_fn (vs := [(Value.agg #[(Value.int .i64 2), (Value.int .i64 0), (Value.string (bs ((s.drop 0).take (((cutT s j)) - 0))))])]) ok31 ⟨(ev_hit hN248 rfl), trivial⟩ (May_ret ⟨2, 0, ((s.drop 0).take (((cutT s j)) - 0))⟩ _ (by first | assumption | omega | (simp only [List.length_append, List.length_cons, List.length_nil, List.length_drop, List.length_take]; omega) | (dsimp only; omega) | decide | (simp [keyV, be8_len]; done))) ?_
              rintro _ w264 ⟨E265, rfl⟩
              have E265 := grown_of_below E265
              have z_w264 := E265.size
              have hB149 := hB149.keep0 E265
              have hO231 := hO231.keep0 E265
              have hB240 := hB240.keep0 E265
              have hB257 := hB257.keep0 E265
              have hb := below_step0 hb E265 hb.size
              rcases Bool.eq_false_or_eq_true ((mayV ⟨2, 0, ((s.drop 0).take (((cutT s j)) - 0))⟩)) with c75 | c75
              · -- 75 True
                rw [c75]
                refine op_not (ev_hit hN248 rfl) ?_
                refine reg_nil ?_
                refine hK263 _ _ ?_
                refine wp_cond_false (ev_hit hN248 rfl) ?_
                refine wp_skip ?_
                refine hK262 _ _ ?_
                refine seq_any fun K266 hK266 => ?_
                refine one_reg ?_
                refine op_move (ev_base hN248 rfl s248_8) ?_
                refine op_eql (ev_hit hN248 rfl) rfl (fun c84 => ?_) (fun c84 => ?_)
                · -- 84 True
                  refine op_move (ev_hit hN248 rfl) ?_
                  refine g_true (j := 2) (dj := 85) (b := true) rfl rfl rfl (ev_hit hN248 rfl) ?_
                  refine op_loadA (cs := [(Value.int .i64 (takeV (([2] ++ s) ++ [0])).1.k), (Value.int .i64 (takeV (([2] ++ s) ++ [0])).1.n), (Value.string (bs (takeV (([2] ++ s) ++ [0])).1.s))]) agg50 rfl (ev_base hN248 rfl s248_6) (fun j u hu => by rw [Nat.zero_add]; exact hB240.cell hu) ?_
                  refine g_true (j := 2) (dj := 85) (b := true) rfl rfl rfl (ev_hit hN248 rfl) ?_
                  refine op_loadA (cs := [(Value.int .i64 2), (Value.int .i64 0), (Value.string (bs ((s.drop 0).take (((cutT s j)) - 0))))]) agg50 rfl (ev_hit hN248 rfl) (fun j u hu => by rw [Nat.zero_add]; exact hB257.cell hu) ?_
                  refine g_true (j := 2) (dj := 85) (b := true) rfl rfl rfl (ev_hit hN248 rfl) ?_
                  by_cases c88 : (takeV (([2] ++ s) ++ [0])).1.k = 2 ∧ (takeV (([2] ++ s) ++ [0])).1.n = 0 ∧ (takeV (([2] ++ s) ++ [0])).1.s = ((s.drop 0).take (((cutT s j)) - 0))
                  · -- 88 True
                    refine op_aeql (xs := [(Value.int .i64 (takeV (([2] ++ s) ++ [0])).1.k), (Value.int .i64 (takeV (([2] ++ s) ++ [0])).1.n), (Value.string (bs (takeV (([2] ++ s) ++ [0])).1.s))]) (ys := [(Value.int .i64 2), (Value.int .i64 0), (Value.string (bs ((s.drop 0).take (((cutT s j)) - 0))))]) (b' := true) (ev_hit hN248 rfl) (ev_hit hN248 rfl) (eq50 (takeV (([2] ++ s) ++ [0])).1.k 2 (takeV (([2] ++ s) ++ [0])).1.n 0 (takeV (([2] ++ s) ++ [0])).1.s ((s.drop 0).take (((cutT s j)) - 0))) (decide_eq_true c88) ?_
                    refine op_pick_t (ev_hit hN248 rfl) (ev_hit hN248 rfl) ?_
                    refine op_move (ev_hit hN248 rfl) ?_
                    refine g_true (j := 7) (dj := 90) (b := true) rfl rfl rfl (ev_hit hN248 rfl) ?_
                    refine op_move (ev_base hN248 rfl s248_7) ?_
                    refine g_true (j := 7) (dj := 90) (b := true) rfl rfl rfl (ev_hit hN248 rfl) ?_
                    refine op_move (ev_base hN248 rfl s248_9) ?_
                    refine g_true (j := 7) (dj := 90) (b := true) rfl rfl rfl (ev_hit hN248 rfl) ?_
                    refine op_add (ev_hit hN248 rfl) rfl (add64 (by omega)) ?_
                    refine g_true (j := 7) (dj := 90) (b := true) rfl rfl rfl (ev_hit hN248 rfl) ?_
                    refine op_eql (ev_hit hN248 rfl) (ev_hit hN248 rfl) (fun c94 => ?_) (fun c94 => ?_)
                    · -- 94 True
                      refine op_pick_t (ev_hit hN248 rfl) (ev_hit hN248 rfl) ?_
                      refine op_assign (ev_hit hN248 rfl) ?_
                      refine reg_nil ?_
                      refine hK266 _ _ ?_
                      refine wp_ret ?_
                      refine ret1 rfl hd248 (ev_hit hN248 rfl) ⟨_, rfl, ?_⟩
                      -- path 16F 19F 23F 42F 44F 60F 75T 84T 88T 94T
                      exact ⟨hb, rfl⟩
                    · -- 94 False
                      exact absurd (by rw [htk, if_pos (by rw [hcut] at c75; simpa using c75)]; rw [hcut]) c94
                  · -- 88 False
                    exact absurd (by rw [htk, if_pos (by rw [hcut] at c75; simpa using c75)]; rw [hcut]; simp) c88
                · -- 84 False
                  exact absurd (by rw [htk, if_pos (by rw [hcut] at c75; simpa using c75)]) c84
              · -- 75 False
                rw [c75]
                refine op_not (ev_hit hN248 rfl) ?_
                refine reg_nil ?_
                refine hK263 _ _ ?_
                refine wp_cond_true (ev_hit hN248 rfl) ?_
                refine seq_any fun K267 hK267 => ?_
                refine one_reg ?_
                refine op_move (ev_base hN248 rfl s248_8) ?_
                refine op_eql (ev_hit hN248 rfl) rfl (fun c78 => ?_) (fun c78 => ?_)
                · -- 78 True
                  refine op_move (ev_hit hN248 rfl) ?_
                  refine g_true (j := 2) (dj := 79) (b := true) rfl rfl rfl (ev_hit hN248 rfl) ?_
                  refine op_move (ev_base hN248 rfl s248_7) ?_
                  refine g_true (j := 2) (dj := 79) (b := true) rfl rfl rfl (ev_hit hN248 rfl) ?_
                  refine op_eql (ev_hit hN248 rfl) rfl (fun c81 => ?_) (fun c81 => ?_)
                  · -- 81 True
                    refine op_pick_t (ev_hit hN248 rfl) (ev_hit hN248 rfl) ?_
                    refine op_assign (ev_hit hN248 rfl) ?_
                    refine reg_nil ?_
                    refine hK267 _ _ ?_
                    refine wp_ret (then_ret ( ?_))
                    refine ret1 rfl hd248 (ev_hit hN248 rfl) ⟨_, rfl, ?_⟩
                    -- path 16F 19F 23F 42F 44F 60F 75F 78T 81T
                    exact ⟨hb, rfl⟩
                  · -- 81 False
                    exact absurd (by rw [htk, if_neg (by rw [hcut] at c75; simpa using c75)]) c81
                · -- 78 False
                  exact absurd (by rw [htk, if_neg (by rw [hcut] at c75; simpa using c75)]) c78

end Go.Proofs.Ytkkongnmcfdioaa
