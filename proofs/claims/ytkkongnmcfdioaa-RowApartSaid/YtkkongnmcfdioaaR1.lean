/- Walks, written by a program: what each function of the translation hands back. -/
import Derived.Test.YtkkongnmcfdioaaV12
import Derived.Test.YtkkongnmcfdioaaRSpec
namespace Go.Proofs.Ytkkongnmcfdioaa
open Go.Gx Go.RowKit
attribute [local irreducible] wpList Code.wp Calls

theorem rowMay_ret (l : List Vl) (v : Value) (w : World) (hl : l.length ≤ 9223372036854775807) (ho : ∀ x ∈ l, OkV x) (h : RdC w 0 w.heap.size 3 v l.length (l.flatMap cellsV)) : Ret Try.prog 47 #[v] w (fun v' w' => Below w.heap.size w w' ∧ v' = .bool (mayR l)) := by
  have hb := Below.refl w.heap.size w
  refine enter (N := 23) Try.func47 rfl rfl (by simp) fun a0 hN hd hA => ?_
  have s0 : a0.tmps.getD 0 undef = v := hA 0 (by simp)
  clear hA
  refine seq_any fun K1 hK1 => ?_
  refine one_reg ?_
  refine op_assign rfl ?_
  refine reg_nil ?_
  refine hK1 _ _ ?_
  refine seq_any fun K2 hK2 => ?_
  refine seq_any fun K3 hK3 => ?_
  refine one_reg ?_
  refine op_move (ev_base hN rfl s0) ?_
  refine op_len_rd Try.underlying65 (ev_hit hN rfl) h ?_
  refine op_move rfl ?_
  refine reg_nil ?_
  refine hK3 _ _ ?_
  refine wp_block ?_
  refine loop_m (fun m a w' => ∃ (i : Nat), m = l.length - i ∧ (a.tmps.getD 0 undef = v) ∧ (a.tmps.getD 5 undef = v) ∧ (a.tmps.getD 6 undef = (Value.int .i64 ((l.length : Nat) : Int))) ∧ (a.tmps.getD 7 undef = (Value.int .i64 ((i : Nat) : Int))) ∧ (i ≤ l.length) ∧ ((l.take i).all mayV = true) ∧ (Below w.heap.size w w') ∧ (RdC w' 0 w.heap.size 3 v l.length (l.flatMap cellsV))) _ hN hd ⟨0, rfl, (sl_base hN rfl s0), (sl_hit hN rfl), (sl_hit hN rfl), (sl_hit hN rfl), Nat.zero_le _, (by simp), hb, h⟩ ?_
  rintro _ a4 w4 hN4 hd4 ⟨i, rfl, s4_0, s4_5, s4_6, s4_7, hi, hall, hb, h⟩
  have z_w4 := hb.size
  refine seq_any fun K5 hK5 => ?_
  refine one_reg ?_
  refine op_lss (ev_base hN4 rfl s4_7) (ev_base hN4 rfl s4_6) (fun c8 => ?_) (fun c8 => ?_)
  · -- 8 True
    refine reg_nil ?_
    refine hK5 _ _ ?_
    refine seq_any fun K6 hK6 => ?_
    refine wp_cond_true (ev_hit hN4 rfl) ?_
    refine wp_skip ?_
    refine hK6 _ _ ?_
    refine seq_any fun K7 hK7 => ?_
    refine wp_block ?_
    refine seq_any fun K8 hK8 => ?_
    refine one_reg ?_
    refine op_index_rd slt65 (ev_base hN4 rfl s4_5) h (ev_base hN4 rfl s4_7) (by omega) (by omega) ?_
    intro b9 o10 _ _ hc11
    refine op_loadA (cs := [(Value.int .i64 (l.getD i V0).k), (Value.int .i64 (l.getD i V0).n), (Value.string (bs (l.getD i V0).s))]) agg50 rfl (ev_hit hN4 rfl) (fun j u hu => hc11 j u (by have := (List.getElem?_eq_some_iff.1 hu).1; simpa using this) ((fun j u hu => el_val (l := l) (i := i) (by omega) (by omega) hu) j u hu)) ?_
    refine op_alloc (cs := [(Value.int .i64 0), (Value.int .i64 0), (Value.string (bs []))]) zero50 rfl ?_
    intro w12 b13 lo_b13 hi_b13 hB15 E14
    have z_w12 := E14.size
    have h := h.keep0 E14
    have hb := below_step0 hb E14 hb.size
    have hB15_old := hB15
    refine op_store (vs := [(Value.int .i64 (l.getD i V0).k), (Value.int .i64 (l.getD i V0).n), (Value.string (bs (l.getD i V0).s))]) (cs' := [(Value.int .i64 (l.getD i V0).k), (Value.int .i64 (l.getD i V0).n), (Value.string (bs (l.getD i V0).s))]) size50 (ev_hit hN4 rfl) (ev_hit hN4 rfl) rfl rfl rfl hB15 (Nat.le_of_ble_eq_true rfl) rfl ?_
    intro w18 hB15 E19
    have z_w18 := E19.size
    have h := h.keep E19 (fun k hk => .inr (by simp at hk; omega))
    have hb := below_step1 hb E19 hb.size (by omega)
    refine reg_nil ?_
    refine hK8 _ _ ?_
    refine seq_any fun K20 hK20 => ?_
    refine one_reg ?_
    refine op_loadA (cs := [(Value.int .i64 (l.getD i V0).k), (Value.int .i64 (l.getD i V0).n), (Value.string (bs (l.getD i V0).s))]) agg50 rfl (ev_hit hN4 rfl) (fun j u hu => by rw [Nat.zero_add]; exact hB15.cell hu) ?_
    have hx : OkV (l.getD i V0) := ok_at ho (by omega)
    have hxs := hx.2.2
    have hxn := hx.2.1
    refine op_fn (vs := [(Value.agg #[(Value.int .i64 (l.getD i V0).k), (Value.int .i64 (l.getD i V0).n), (Value.string (bs (l.getD i V0).s))])]) ok31 ⟨(ev_hit hN4 rfl), trivial⟩ (May_ret (l.getD i V0) _ (by first | assumption | omega | (simp only [List.length_append, List.length_cons, List.length_nil, List.length_drop, List.length_take]; omega) | (dsimp only; omega) | decide | (simp [keyV, be8_len]; done))) ?_
    rintro _ w21 ⟨E22, rfl⟩
    have E22 := grown_of_below E22
    have z_w21 := E22.size
    have h := h.keep0 E22
    have hB15 := hB15.keep0 E22
    have hb := below_step0 hb E22 hb.size
    rcases Bool.eq_false_or_eq_true ((mayV (l.getD i V0))) with c12 | c12
    · -- 12 True
      rw [c12]
      refine op_not (ev_hit hN4 rfl) ?_
      refine reg_nil ?_
      refine hK20 _ _ ?_
      refine wp_cond_false (ev_hit hN4 rfl) ?_
      refine wp_skip ?_
      refine hK7 _ _ ?_
      refine one_reg ?_
      refine op_add (ev_base hN4 rfl s4_7) rfl (add64 (by omega)) ?_
      refine op_move (ev_hit hN4 rfl) ?_
      refine reg_nil ?_
      -- round 8T 12T
      exact loop_next _ hN4 hd4 ⟨i + 1, rfl, (sl_base hN4 rfl s4_0), (sl_base hN4 rfl s4_5), (sl_base hN4 rfl s4_6), (sl_hit hN4 rfl).trans (congrArg (Value.int .i64) (by omega)), (by omega), (allsnoc (d := V0) (by omega) hall c12), hb, h⟩ (by omega)
    · -- 12 False
      rw [c12]
      refine op_not (ev_hit hN4 rfl) ?_
      refine reg_nil ?_
      refine hK20 _ _ ?_
      refine wp_cond_true (ev_hit hN4 rfl) ?_
      refine seq_any fun K23 hK23 => ?_
      refine one_reg ?_
      refine op_assign rfl ?_
      refine reg_nil ?_
      refine hK23 _ _ ?_
      refine wp_ret (blk_ret (then_ret (then_ret (blk_ret (then_ret ( ?_))))))
      refine ret1 rfl hd4 (ev_hit hN4 rfl) ⟨_, rfl, ?_⟩
      -- path 8T 12F
      exact ⟨hb, congrArg Value.bool (by rw [mayR, allbad (d := V0) (by omega) c12, Bool.false_and])⟩
  · -- 8 False
    refine reg_nil ?_
    refine hK5 _ _ ?_
    refine seq_any fun K24 hK24 => ?_
    refine wp_cond_false (ev_hit hN4 rfl) ?_
    refine wp_exit (then_exit (then_exit (blk_hit ?_)))
    refine hK2 _ _ ?_
    refine seq_any fun K25 hK25 => ?_
    refine one_reg ?_
    refine op_move (ev_base hN4 rfl s4_0) ?_
    refine op_len_rd Try.underlying65 (ev_hit hN4 rfl) h ?_
    refine op_gtr (ev_hit hN4 rfl) rfl (fun c17 => ?_) (fun c17 => ?_)
    · -- 17 True
      refine op_move (ev_hit hN4 rfl) ?_
      refine g_true (j := 3) (dj := 18) (b := true) rfl rfl rfl (ev_hit hN4 rfl) ?_
      refine op_move (ev_base hN4 rfl s4_0) ?_
      refine g_true (j := 3) (dj := 18) (b := true) rfl rfl rfl (ev_hit hN4 rfl) ?_
      refine op_len_rd Try.underlying65 (ev_hit hN4 rfl) h ?_
      refine g_true (j := 3) (dj := 18) (b := true) rfl rfl rfl (ev_hit hN4 rfl) ?_
      refine op_leq (ev_hit hN4 rfl) rfl (fun c21 => ?_) (fun c21 => ?_)
      · -- 21 True
        refine op_pick_t (ev_hit hN4 rfl) (ev_hit hN4 rfl) ?_
        refine op_assign (ev_hit hN4 rfl) ?_
        refine reg_nil ?_
        refine hK25 _ _ ?_
        refine wp_ret ?_
        refine ret1 rfl hd4 (ev_hit hN4 rfl) ⟨_, rfl, ?_⟩
        -- path 8F 17T 21T
        exact ⟨hb, congrArg Value.bool (by have ha := allwhole (by omega) hall; rw [mayR, ha, Bool.true_and]; simp; omega)⟩
      · -- 21 False
        refine op_pick_t (ev_hit hN4 rfl) (ev_hit hN4 rfl) ?_
        refine op_assign (ev_hit hN4 rfl) ?_
        refine reg_nil ?_
        refine hK25 _ _ ?_
        refine wp_ret ?_
        refine ret1 rfl hd4 (ev_hit hN4 rfl) ⟨_, rfl, ?_⟩
        -- path 8F 17T 21F
        exact ⟨hb, congrArg Value.bool (by have ha := allwhole (by omega) hall; rw [mayR, ha, Bool.true_and]; simp; omega)⟩
    · -- 17 False
      refine op_move (ev_hit hN4 rfl) ?_
      refine g_false (j := 3) (dj := 18) (b := true) rfl rfl rfl (ev_hit hN4 rfl) rfl rfl ?_
      refine g_false (j := 3) (dj := 18) (b := true) rfl rfl rfl (ev_hit hN4 rfl) rfl rfl ?_
      refine g_false (j := 3) (dj := 18) (b := true) rfl rfl rfl (ev_hit hN4 rfl) rfl rfl ?_
      refine op_pick_f (ev_hit hN4 rfl) rfl ?_
      refine op_assign (ev_hit hN4 rfl) ?_
      refine reg_nil ?_
      refine hK25 _ _ ?_
      refine wp_ret ?_
      refine ret1 rfl hd4 (ev_hit hN4 rfl) ⟨_, rfl, ?_⟩
      -- path 8F 17F
      exact ⟨hb, congrArg Value.bool (by have ha := allwhole (by omega) hall; rw [mayR, ha, Bool.true_and]; simp; omega)⟩

theorem MayRow_ret (l : List Vl) (v : Value) (w : World) (hl : l.length ≤ 9223372036854775807) (ho : ∀ x ∈ l, OkV x) (h : RdC w 0 w.heap.size 3 v l.length (l.flatMap cellsV)) : Ret Try.prog 48 #[v] w (fun v' w' => Below w.heap.size w w' ∧ v' = .bool (mayR l)) := by
  have hb := Below.refl w.heap.size w
  refine enter (N := 24) Try.func48 rfl rfl (by simp) fun a0 hN hd hA => ?_
  have s0 : a0.tmps.getD 0 undef = v := hA 0 (by simp)
  clear hA
  refine seq_any fun K26 hK26 => ?_
  refine one_reg ?_
  refine op_assign rfl ?_
  refine reg_nil ?_
  refine hK26 _ _ ?_
  refine seq_any fun K27 hK27 => ?_
  refine seq_any fun K28 hK28 => ?_
  refine one_reg ?_
  refine op_assign rfl ?_
  refine reg_nil ?_
  refine hK28 _ _ ?_
  refine wp_block ?_
  refine loop_m (fun m a w' => ∃ (i : Nat), m = l.length - i ∧ (a.tmps.getD 0 undef = v) ∧ (a.tmps.getD 3 undef = (Value.int .i64 ((i : Nat) : Int))) ∧ (i ≤ l.length) ∧ ((l.take i).all mayV = true) ∧ (Below w.heap.size w w') ∧ (RdC w' 0 w.heap.size 3 v l.length (l.flatMap cellsV))) _ hN hd ⟨0, rfl, (sl_base hN rfl s0), (sl_hit hN rfl), Nat.zero_le _, (by simp), hb, h⟩ ?_
  rintro _ a29 w29 hN29 hd29 ⟨i, rfl, s29_0, s29_3, hi, hall, hb, h⟩
  have z_w29 := hb.size
  refine seq_any fun K30 hK30 => ?_
  refine seq_any fun K31 hK31 => ?_
  refine one_reg ?_
  refine op_move (ev_base hN29 rfl s29_3) ?_
  refine op_move (ev_base hN29 rfl s29_0) ?_
  refine op_len_rd Try.underlying65 (ev_hit hN29 rfl) h ?_
  refine op_lss (ev_hit hN29 rfl) (ev_hit hN29 rfl) (fun c7 => ?_) (fun c7 => ?_)
  · -- 7 True
    refine reg_nil ?_
    refine hK31 _ _ ?_
    refine wp_cond_true (ev_hit hN29 rfl) ?_
    refine wp_skip ?_
    refine hK30 _ _ ?_
    refine seq_any fun K32 hK32 => ?_
    refine wp_block ?_
    refine seq_any fun K33 hK33 => ?_
    refine one_reg ?_
    refine op_move (ev_base hN29 rfl s29_0) ?_
    refine op_move (ev_base hN29 rfl s29_3) ?_
    refine op_index_rd slt65 (ev_hit hN29 rfl) h (ev_hit hN29 rfl) (by omega) (by omega) ?_
    intro b34 o35 _ _ hc36
    refine op_loadA (cs := [(Value.int .i64 (l.getD i V0).k), (Value.int .i64 (l.getD i V0).n), (Value.string (bs (l.getD i V0).s))]) agg50 rfl (ev_hit hN29 rfl) (fun j u hu => hc36 j u (by have := (List.getElem?_eq_some_iff.1 hu).1; simpa using this) ((fun j u hu => el_val (l := l) (i := i) (by omega) (by omega) hu) j u hu)) ?_
    have hx : OkV (l.getD i V0) := ok_at ho (by omega)
    have hxs := hx.2.2
    have hxn := hx.2.1
    refine op_fn (vs := [(Value.agg #[(Value.int .i64 (l.getD i V0).k), (Value.int .i64 (l.getD i V0).n), (Value.string (bs (l.getD i V0).s))])]) ok32 ⟨(ev_hit hN29 rfl), trivial⟩ (MayValue_ret (l.getD i V0) _ (by first | assumption | omega | (simp only [List.length_append, List.length_cons, List.length_nil, List.length_drop, List.length_take]; omega) | (dsimp only; omega) | decide | (simp [keyV, be8_len]; done))) ?_
    rintro _ w37 ⟨E38, rfl⟩
    have E38 := grown_of_below E38
    have z_w37 := E38.size
    have h := h.keep0 E38
    have hb := below_step0 hb E38 hb.size
    rcases Bool.eq_false_or_eq_true ((mayV (l.getD i V0))) with c14 | c14
    · -- 14 True
      rw [c14]
      refine op_not (ev_hit hN29 rfl) ?_
      refine reg_nil ?_
      refine hK33 _ _ ?_
      refine wp_cond_false (ev_hit hN29 rfl) ?_
      refine wp_skip ?_
      refine hK32 _ _ ?_
      refine one_reg ?_
      refine op_move (ev_base hN29 rfl s29_3) ?_
      refine op_add (ev_hit hN29 rfl) rfl (add64 (by omega)) ?_
      refine op_assign (ev_hit hN29 rfl) ?_
      refine reg_nil ?_
      -- round 7T 14T
      exact loop_next _ hN29 hd29 ⟨i + 1, rfl, (sl_base hN29 rfl s29_0), (sl_hit hN29 rfl).trans (congrArg (Value.int .i64) (by omega)), (by omega), (allsnoc (d := V0) (by omega) hall c14), hb, h⟩ (by omega)
    · -- 14 False
      rw [c14]
      refine op_not (ev_hit hN29 rfl) ?_
      refine reg_nil ?_
      refine hK33 _ _ ?_
      refine wp_cond_true (ev_hit hN29 rfl) ?_
      refine seq_any fun K39 hK39 => ?_
      refine one_reg ?_
      refine op_assign rfl ?_
      refine reg_nil ?_
      refine hK39 _ _ ?_
      refine wp_ret (blk_ret (then_ret (then_ret (blk_ret (then_ret ( ?_))))))
      refine ret1 rfl hd29 (ev_hit hN29 rfl) ⟨_, rfl, ?_⟩
      -- path 7T 14F
      exact ⟨hb, congrArg Value.bool (by rw [mayR, allbad (d := V0) (by omega) c14, Bool.false_and])⟩
  · -- 7 False
    refine reg_nil ?_
    refine hK31 _ _ ?_
    refine wp_cond_false (ev_hit hN29 rfl) ?_
    refine wp_exit (then_exit (then_exit (blk_hit ?_)))
    refine hK27 _ _ ?_
    refine seq_any fun K40 hK40 => ?_
    refine one_reg ?_
    refine op_move (ev_base hN29 rfl s29_0) ?_
    refine op_len_rd Try.underlying65 (ev_hit hN29 rfl) h ?_
    refine op_geq (ev_hit hN29 rfl) rfl (fun c18 => ?_) (fun c18 => ?_)
    · -- 18 True
      refine op_move (ev_hit hN29 rfl) ?_
      refine g_true (j := 3) (dj := 19) (b := true) rfl rfl rfl (ev_hit hN29 rfl) ?_
      refine op_move (ev_base hN29 rfl s29_0) ?_
      refine g_true (j := 3) (dj := 19) (b := true) rfl rfl rfl (ev_hit hN29 rfl) ?_
      refine op_len_rd Try.underlying65 (ev_hit hN29 rfl) h ?_
      refine g_true (j := 3) (dj := 19) (b := true) rfl rfl rfl (ev_hit hN29 rfl) ?_
      refine op_leq (ev_hit hN29 rfl) rfl (fun c22 => ?_) (fun c22 => ?_)
      · -- 22 True
        refine op_pick_t (ev_hit hN29 rfl) (ev_hit hN29 rfl) ?_
        refine op_assign (ev_hit hN29 rfl) ?_
        refine reg_nil ?_
        refine hK40 _ _ ?_
        refine wp_ret ?_
        refine ret1 rfl hd29 (ev_hit hN29 rfl) ⟨_, rfl, ?_⟩
        -- path 7F 18T 22T
        exact ⟨hb, congrArg Value.bool (by have ha := allwhole (by omega) hall; rw [mayR, ha, Bool.true_and]; simp; omega)⟩
      · -- 22 False
        refine op_pick_t (ev_hit hN29 rfl) (ev_hit hN29 rfl) ?_
        refine op_assign (ev_hit hN29 rfl) ?_
        refine reg_nil ?_
        refine hK40 _ _ ?_
        refine wp_ret ?_
        refine ret1 rfl hd29 (ev_hit hN29 rfl) ⟨_, rfl, ?_⟩
        -- path 7F 18T 22F
        exact ⟨hb, congrArg Value.bool (by have ha := allwhole (by omega) hall; rw [mayR, ha, Bool.true_and]; simp; omega)⟩
    · -- 18 False
      refine op_move (ev_hit hN29 rfl) ?_
      refine g_false (j := 3) (dj := 19) (b := true) rfl rfl rfl (ev_hit hN29 rfl) rfl rfl ?_
      refine g_false (j := 3) (dj := 19) (b := true) rfl rfl rfl (ev_hit hN29 rfl) rfl rfl ?_
      refine g_false (j := 3) (dj := 19) (b := true) rfl rfl rfl (ev_hit hN29 rfl) rfl rfl ?_
      refine op_pick_f (ev_hit hN29 rfl) rfl ?_
      refine op_assign (ev_hit hN29 rfl) ?_
      refine reg_nil ?_
      refine hK40 _ _ ?_
      refine wp_ret ?_
      refine ret1 rfl hd29 (ev_hit hN29 rfl) ⟨_, rfl, ?_⟩
      -- path 7F 18F
      exact ⟨hb, congrArg Value.bool (by have ha := allwhole (by omega) hall; rw [mayR, ha, Bool.true_and]; simp; omega)⟩

end Go.Proofs.Ytkkongnmcfdioaa
