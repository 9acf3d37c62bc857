/- Walks, written by a program: what each function of the translation hands back. -/
import Derived.Test.YtkkongnmcfdioaaV7
namespace Go.Proofs.Ytkkongnmcfdioaa
open Go.Gx Go.RowKit
attribute [local irreducible] wpList Code.wp Calls

theorem begun4_ret (w : World) : Ret Try.prog 30 #[] w (fun v' w' => Below w.heap.size w w' ∧ v' = .bool true) := by
  have hb := Below.refl w.heap.size w
  refine enter (N := 51) Try.func30 rfl rfl (by simp) fun a0 hN hd hA => ?_
  clear hA
  refine seq_any fun K1 hK1 => ?_
  refine one_reg ?_
  refine op_assign rfl ?_
  refine reg_nil ?_
  refine hK1 _ _ ?_
  refine seq_any fun K2 hK2 => ?_
  refine one_reg ?_
  refine op_build (pv := [(0, (Value.int .i64 1)), (1, (Value.int .i64 5))]) (v := (Value.agg #[(Value.int .i64 1), (Value.int .i64 5), (Value.string (bs []))])) ⟨rfl, rfl, ⟨rfl, rfl, trivial⟩⟩ (by kernel_rfl) ?_
  refine op_build (pv := [(0, (Value.int .i64 2)), (2, (Value.string (bs [97])))]) (v := (Value.agg #[(Value.int .i64 2), (Value.int .i64 0), (Value.string (bs [97]))])) ⟨rfl, rfl, ⟨rfl, rfl, trivial⟩⟩ (by kernel_rfl) ?_
  refine op_alloc (cs := [(Value.int .i64 0), (Value.int .i64 0), (Value.string (bs []))]) zero50 rfl ?_
  intro w3 b4 lo_b4 hi_b4 hB6 E5
  have z_w3 := E5.size
  have hb := below_step0 hb E5 hb.size
  refine op_alloc (cs := [(Value.int .i64 0), (Value.int .i64 0), (Value.string (bs []))]) zero50 rfl ?_
  intro w7 b8 lo_b8 hi_b8 hB10 E9
  have z_w7 := E9.size
  have hB6 := hB6.keep0 E9
  have hb := below_step0 hb E9 hb.size
  have hB6_old := hB6
  refine op_store (vs := [(Value.int .i64 1), (Value.int .i64 5), (Value.string (bs []))]) (cs' := [(Value.int .i64 1), (Value.int .i64 5), (Value.string (bs []))]) size50 (ev_hit hN rfl) (ev_hit hN rfl) rfl rfl rfl hB6 (Nat.le_of_ble_eq_true rfl) rfl ?_
  intro w13 hB6 E14
  have z_w13 := E14.size
  have hB10 := hB10.keep E14 (by simp; omega)
  have hb := below_step1 hb E14 hb.size (by omega)
  have hB10_old := hB10
  refine op_store (vs := [(Value.int .i64 2), (Value.int .i64 0), (Value.string (bs [97]))]) (cs' := [(Value.int .i64 2), (Value.int .i64 0), (Value.string (bs [97]))]) size50 (ev_hit hN rfl) (ev_hit hN rfl) rfl rfl rfl hB10 (Nat.le_of_ble_eq_true rfl) rfl ?_
  intro w17 hB10 E18
  have z_w17 := E18.size
  have hB6 := hB6.keep E18 (by simp; omega)
  have hb := below_step1 hb E18 hb.size (by omega)
  refine reg_nil ?_
  refine hK2 _ _ ?_
  refine seq_any fun K19 hK19 => ?_
  refine one_reg ?_
  refine op_loadA (cs := [(Value.int .i64 2), (Value.int .i64 0), (Value.string (bs [97]))]) agg50 rfl (ev_hit hN rfl) (fun j u hu => by rw [Nat.zero_add]; exact hB10.cell hu) ?_
  have hq20 : RdC w17 0 w17.heap.size 1 (Value.slice none 0 0) ([] : List UInt8).length (([] : List UInt8).map u8v) := by simpa using ((RdC.nil _ 0 0 1).mono (L' := 0) (B' := w17.heap.size) (Nat.zero_le _) (by omega))
  refine op_fn (vs := [(Value.slice none 0 0), (Value.agg #[(Value.int .i64 2), (Value.int .i64 0), (Value.string (bs [97]))])]) ok34 ⟨rfl, ⟨(ev_hit hN rfl), trivial⟩⟩ (Key_ret [] ⟨2, 0, [97]⟩ _ _ (by first | assumption | omega | (simp only [List.length_append, List.length_cons, List.length_nil, List.length_drop, List.length_take]; omega) | (dsimp only; omega) | decide) (by first | assumption | omega | (simp only [List.length_append, List.length_cons, List.length_nil, List.length_drop, List.length_take]; omega) | (dsimp only; omega) | decide) (by first | assumption | omega | (simp only [List.length_append, List.length_cons, List.length_nil, List.length_drop, List.length_take]; omega) | (dsimp only; omega) | decide) hq20) ?_
  rintro v21 w23 ⟨E24, hO22⟩
  have E24 := grown_of_below E24
  have z_w23 := E24.size
  have hB6 := hB6.keep0 E24
  have hB10 := hB10.keep0 E24
  have hb := below_step0 hb E24 hb.size
  have hO22 : Own w23 w17.heap.size 5 1 v21 (keyV ⟨2, 0, [97]⟩).length ((keyV ⟨2, 0, [97]⟩).map u8v) := by simpa using hO22
  have hq25 : RdC w23 0 w23.heap.size 1 v21 (keyV ⟨2, 0, [97]⟩).length ((keyV ⟨2, 0, [97]⟩).map u8v) := by simpa using (hO22.rdw.mono (L' := 0) (B' := w23.heap.size) (Nat.zero_le _) (by omega))
  refine op_fn (vs := [v21]) ok40 ⟨(ev_hit hN rfl), trivial⟩ (Take_ret (keyV ⟨2, 0, [97]⟩) v21 _ (by first | assumption | omega | (simp only [List.length_append, List.length_cons, List.length_nil, List.length_drop, List.length_take]; omega) | (dsimp only; omega) | decide) hq25) ?_
  rintro _ w26 ⟨E27, rfl⟩
  have E27 := grown_of_below E27
  have z_w26 := E27.size
  have hB6 := hB6.keep0 E27
  have hB10 := hB10.keep0 E27
  have hO22 := hO22.keep0 E27
  have hb := below_step0 hb E27 hb.size
  refine op_move (ev_hit hN rfl) ?_
  refine op_extract (ev_hit hN rfl) rfl ?_
  refine op_extract (ev_hit hN rfl) rfl ?_
  refine op_extract (ev_hit hN rfl) rfl ?_
  refine op_alloc (cs := [(Value.int .i64 0), (Value.int .i64 0), (Value.string (bs []))]) zero50 rfl ?_
  intro w28 b29 lo_b29 hi_b29 hB31 E30
  have z_w28 := E30.size
  have hB6 := hB6.keep0 E30
  have hB10 := hB10.keep0 E30
  have hO22 := hO22.keep0 E30
  have hb := below_step0 hb E30 hb.size
  have hB31_old := hB31
  refine op_store (vs := [(Value.int .i64 (takeV (keyV ⟨2, 0, [97]⟩)).1.k), (Value.int .i64 (takeV (keyV ⟨2, 0, [97]⟩)).1.n), (Value.string (bs (takeV (keyV ⟨2, 0, [97]⟩)).1.s))]) (cs' := [(Value.int .i64 (takeV (keyV ⟨2, 0, [97]⟩)).1.k), (Value.int .i64 (takeV (keyV ⟨2, 0, [97]⟩)).1.n), (Value.string (bs (takeV (keyV ⟨2, 0, [97]⟩)).1.s))]) size50 (ev_hit hN rfl) (ev_hit hN rfl) rfl rfl rfl hB31 (Nat.le_of_ble_eq_true rfl) rfl ?_
  intro w34 hB31 E35
  have z_w34 := E35.size
  have hB6 := hB6.keep E35 (by simp; omega)
  have hB10 := hB10.keep E35 (by simp; omega)
  have hO22 := hO22.keepX hB31_old E35 (by decide)
  have hb := below_step1 hb E35 hb.size (by omega)
  refine op_assign (ev_hit hN rfl) ?_
  refine op_assign (ev_hit hN rfl) ?_
  refine reg_nil ?_
  refine hK19 _ _ ?_
  refine seq_any fun K36 hK36 => ?_
  refine one_reg ?_
  refine op_loadA (cs := [(Value.int .i64 1), (Value.int .i64 5), (Value.string (bs []))]) agg50 rfl (ev_hit hN rfl) (fun j u hu => by rw [Nat.zero_add]; exact hB6.cell hu) ?_
  refine op_fn (vs := [(Value.agg #[(Value.int .i64 1), (Value.int .i64 5), (Value.string (bs []))])]) ok31 ⟨(ev_hit hN rfl), trivial⟩ (May_ret ⟨1, 5, []⟩ _ (by first | assumption | omega | (simp only [List.length_append, List.length_cons, List.length_nil, List.length_drop, List.length_take]; omega) | (dsimp only; omega) | decide)) ?_
  rintro _ w37 ⟨E38, rfl⟩
  have E38 := grown_of_below E38
  have z_w37 := E38.size
  have hB6 := hB6.keep0 E38
  have hB10 := hB10.keep0 E38
  have hO22 := hO22.keep0 E38
  have hB31 := hB31.keep0 E38
  have hb := below_step0 hb E38 hb.size
  rcases Bool.eq_false_or_eq_true ((mayV ⟨1, 5, []⟩)) with c16 | c16
  · -- 16 True
    rw [c16]
    refine op_move (ev_hit hN rfl) ?_
    refine g_true (j := 2) (dj := 17) (b := true) rfl rfl rfl (ev_hit hN rfl) ?_
    refine op_loadA (cs := [(Value.int .i64 2), (Value.int .i64 0), (Value.string (bs [97]))]) agg50 rfl (ev_hit hN rfl) (fun j u hu => by rw [Nat.zero_add]; exact hB10.cell hu) ?_
    refine g_true (j := 2) (dj := 17) (b := true) rfl rfl rfl (ev_hit hN rfl) ?_
    refine op_fn (vs := [(Value.agg #[(Value.int .i64 2), (Value.int .i64 0), (Value.string (bs [97]))])]) ok31 ⟨(ev_hit hN rfl), trivial⟩ (May_ret ⟨2, 0, [97]⟩ _ (by first | assumption | omega | (simp only [List.length_append, List.length_cons, List.length_nil, List.length_drop, List.length_take]; omega) | (dsimp only; omega) | decide)) ?_
    rintro _ w39 ⟨E40, rfl⟩
    have E40 := grown_of_below E40
    have z_w39 := E40.size
    have hB6 := hB6.keep0 E40
    have hB10 := hB10.keep0 E40
    have hO22 := hO22.keep0 E40
    have hB31 := hB31.keep0 E40
    have hb := below_step0 hb E40 hb.size
    rcases Bool.eq_false_or_eq_true ((mayV ⟨2, 0, [97]⟩)) with c19 | c19
    · -- 19 True
      rw [c19]
      refine op_pick_t (ev_hit hN rfl) (ev_hit hN rfl) ?_
      refine op_move (ev_hit hN rfl) ?_
      refine g_true (j := 6) (dj := 21) (b := true) rfl rfl rfl (ev_hit hN rfl) ?_
      refine op_build (pv := []) (v := (Value.agg #[(Value.int .i64 0), (Value.int .i64 0), (Value.string (bs []))])) trivial (by kernel_rfl) ?_
      refine g_true (j := 6) (dj := 21) (b := true) rfl rfl rfl (ev_hit hN rfl) ?_
      refine op_fn (vs := [(Value.agg #[(Value.int .i64 0), (Value.int .i64 0), (Value.string (bs []))])]) ok31 ⟨(ev_hit hN rfl), trivial⟩ (May_ret ⟨0, 0, []⟩ _ (by first | assumption | omega | (simp only [List.length_append, List.length_cons, List.length_nil, List.length_drop, List.length_take]; omega) | (dsimp only; omega) | decide)) ?_
      rintro _ w41 ⟨E42, rfl⟩
      have E42 := grown_of_below E42
      have z_w41 := E42.size
      have hB6 := hB6.keep0 E42
      have hB10 := hB10.keep0 E42
      have hO22 := hO22.keep0 E42
      have hB31 := hB31.keep0 E42
      have hb := below_step0 hb E42 hb.size
      rcases Bool.eq_false_or_eq_true ((mayV ⟨0, 0, []⟩)) with c23 | c23
      · -- 23 True
        exact absurd c23 (by decide)
      · -- 23 False
        rw [c23]
        refine g_true (j := 6) (dj := 21) (b := true) rfl rfl rfl (ev_hit hN rfl) ?_
        refine op_not (ev_hit hN rfl) ?_
        refine op_pick_t (ev_hit hN rfl) (ev_hit hN rfl) ?_
        refine op_move (ev_hit hN rfl) ?_
        refine g_true (j := 11) (dj := 26) (b := true) rfl rfl rfl (ev_hit hN rfl) ?_
        refine op_loadA (cs := [(Value.int .i64 1), (Value.int .i64 5), (Value.string (bs []))]) agg50 rfl (ev_hit hN rfl) (fun j u hu => by rw [Nat.zero_add]; exact hB6.cell hu) ?_
        refine g_true (j := 11) (dj := 26) (b := true) rfl rfl rfl (ev_hit hN rfl) ?_
        refine op_loadA (cs := [(Value.int .i64 2), (Value.int .i64 0), (Value.string (bs [97]))]) agg50 rfl (ev_hit hN rfl) (fun j u hu => by rw [Nat.zero_add]; exact hB10.cell hu) ?_
        refine g_true (j := 11) (dj := 26) (b := true) rfl rfl rfl (ev_hit hN rfl) ?_
        refine op_fn (vs := [(Value.agg #[(Value.int .i64 1), (Value.int .i64 5), (Value.string (bs []))]), (Value.agg #[(Value.int .i64 2), (Value.int .i64 0), (Value.string (bs [97]))])]) ok35 ⟨(ev_hit hN rfl), ⟨(ev_hit hN rfl), trivial⟩⟩ (Compare_ret ⟨1, 5, []⟩ ⟨2, 0, [97]⟩ _) ?_
        rintro _ w43 ⟨E44, rfl⟩
        have E44 := grown_of_below E44
        have z_w43 := E44.size
        have hB6 := hB6.keep0 E44
        have hB10 := hB10.keep0 E44
        have hO22 := hO22.keep0 E44
        have hB31 := hB31.keep0 E44
        have hb := below_step0 hb E44 hb.size
        refine g_true (j := 11) (dj := 26) (b := true) rfl rfl rfl (ev_hit hN rfl) ?_
        refine op_eql (ev_hit hN rfl) rfl (fun c30 => ?_) (fun c30 => ?_)
        · -- 30 True
          refine op_pick_t (ev_hit hN rfl) (ev_hit hN rfl) ?_
          refine op_move (ev_hit hN rfl) ?_
          refine g_true (j := 17) (dj := 32) (b := true) rfl rfl rfl (ev_hit hN rfl) ?_
          refine op_loadA (cs := [(Value.int .i64 1), (Value.int .i64 5), (Value.string (bs []))]) agg50 rfl (ev_hit hN rfl) (fun j u hu => by rw [Nat.zero_add]; exact hB6.cell hu) ?_
          refine g_true (j := 17) (dj := 32) (b := true) rfl rfl rfl (ev_hit hN rfl) ?_
          have hq45 : RdC w43 0 w43.heap.size 1 (Value.slice none 0 0) ([] : List UInt8).length (([] : List UInt8).map u8v) := by simpa using ((RdC.nil _ 0 0 1).mono (L' := 0) (B' := w43.heap.size) (Nat.zero_le _) (by omega))
          refine op_fn (vs := [(Value.slice none 0 0), (Value.agg #[(Value.int .i64 1), (Value.int .i64 5), (Value.string (bs []))])]) ok34 ⟨rfl, ⟨(ev_hit hN rfl), trivial⟩⟩ (Key_ret [] ⟨1, 5, []⟩ _ _ (by first | assumption | omega | (simp only [List.length_append, List.length_cons, List.length_nil, List.length_drop, List.length_take]; omega) | (dsimp only; omega) | decide) (by first | assumption | omega | (simp only [List.length_append, List.length_cons, List.length_nil, List.length_drop, List.length_take]; omega) | (dsimp only; omega) | decide) (by first | assumption | omega | (simp only [List.length_append, List.length_cons, List.length_nil, List.length_drop, List.length_take]; omega) | (dsimp only; omega) | decide) hq45) ?_
          rintro v46 w48 ⟨E49, hO47⟩
          have E49 := grown_of_below E49
          have z_w48 := E49.size
          have hB6 := hB6.keep0 E49
          have hB10 := hB10.keep0 E49
          have hO22 := hO22.keep0 E49
          have hB31 := hB31.keep0 E49
          have hb := below_step0 hb E49 hb.size
          have hO47 : Own w48 w43.heap.size 5 1 v46 (keyV ⟨1, 5, []⟩).length ((keyV ⟨1, 5, []⟩).map u8v) := by simpa using hO47
          refine g_true (j := 17) (dj := 32) (b := true) rfl rfl rfl (ev_hit hN rfl) ?_
          refine op_len_rd Try.underlying22 (ev_hit hN rfl) hO47.rdw ?_
          refine g_true (j := 17) (dj := 32) (b := true) rfl rfl rfl (ev_hit hN rfl) ?_
          refine op_eql (ev_hit hN rfl) rfl (fun c36 => ?_) (fun c36 => ?_)
          · -- 36 True
            refine op_pick_t (ev_hit hN rfl) (ev_hit hN rfl) ?_
            refine op_move (ev_hit hN rfl) ?_
            refine g_true (j := 23) (dj := 38) (b := true) rfl rfl rfl (ev_hit hN rfl) ?_
            refine op_move (ev_hit hN rfl) ?_
            refine g_true (j := 23) (dj := 38) (b := true) rfl rfl rfl (ev_hit hN rfl) ?_
            refine op_eql (ev_hit hN rfl) rfl (fun c40 => ?_) (fun c40 => ?_)
            · -- 40 True
              refine op_pick_t (ev_hit hN rfl) (ev_hit hN rfl) ?_
              refine op_move (ev_hit hN rfl) ?_
              refine g_true (j := 27) (dj := 42) (b := true) rfl rfl rfl (ev_hit hN rfl) ?_
              refine op_move (ev_hit hN rfl) ?_
              refine g_true (j := 27) (dj := 42) (b := true) rfl rfl rfl (ev_hit hN rfl) ?_
              refine op_eql (ev_hit hN rfl) rfl (fun c44 => ?_) (fun c44 => ?_)
              · -- 44 True
                refine op_pick_t (ev_hit hN rfl) (ev_hit hN rfl) ?_
                refine op_move (ev_hit hN rfl) ?_
                refine g_true (j := 31) (dj := 46) (b := true) rfl rfl rfl (ev_hit hN rfl) ?_
                refine op_loadA (cs := [(Value.int .i64 (takeV (keyV ⟨2, 0, [97]⟩)).1.k), (Value.int .i64 (takeV (keyV ⟨2, 0, [97]⟩)).1.n), (Value.string (bs (takeV (keyV ⟨2, 0, [97]⟩)).1.s))]) agg50 rfl (ev_hit hN rfl) (fun j u hu => by rw [Nat.zero_add]; exact hB31.cell hu) ?_
                refine g_true (j := 31) (dj := 46) (b := true) rfl rfl rfl (ev_hit hN rfl) ?_
                refine op_loadA (cs := [(Value.int .i64 2), (Value.int .i64 0), (Value.string (bs [97]))]) agg50 rfl (ev_hit hN rfl) (fun j u hu => by rw [Nat.zero_add]; exact hB10.cell hu) ?_
                refine g_true (j := 31) (dj := 46) (b := true) rfl rfl rfl (ev_hit hN rfl) ?_
                by_cases c49 : (takeV (keyV ⟨2, 0, [97]⟩)).1.k = 2 ∧ (takeV (keyV ⟨2, 0, [97]⟩)).1.n = 0 ∧ (takeV (keyV ⟨2, 0, [97]⟩)).1.s = [97]
                · -- 49 True
                  refine op_aeql (xs := [(Value.int .i64 (takeV (keyV ⟨2, 0, [97]⟩)).1.k), (Value.int .i64 (takeV (keyV ⟨2, 0, [97]⟩)).1.n), (Value.string (bs (takeV (keyV ⟨2, 0, [97]⟩)).1.s))]) (ys := [(Value.int .i64 2), (Value.int .i64 0), (Value.string (bs [97]))]) (b' := true) (ev_hit hN rfl) (ev_hit hN rfl) (eq50 (takeV (keyV ⟨2, 0, [97]⟩)).1.k 2 (takeV (keyV ⟨2, 0, [97]⟩)).1.n 0 (takeV (keyV ⟨2, 0, [97]⟩)).1.s [97]) (decide_eq_true c49) ?_
                  refine op_pick_t (ev_hit hN rfl) (ev_hit hN rfl) ?_
                  refine op_assign (ev_hit hN rfl) ?_
                  refine reg_nil ?_
                  refine hK36 _ _ ?_
                  refine wp_ret ?_
                  refine ret1 rfl hd (ev_hit hN rfl) ⟨_, rfl, ?_⟩
                  -- path 16T 19T 23F 30T 36T 40T 44T 49T
                  exact ⟨hb, rfl⟩
                · -- 49 False
                  exact absurd (by first | decide | simp [keyV, be8_len]) c49
              · -- 44 False
                exact absurd (by first | decide | simp [keyV, be8_len]) c44
            · -- 40 False
              exact absurd (by first | decide | simp [keyV, be8_len]) c40
          · -- 36 False
            exact absurd (by first | decide | simp [keyV, be8_len]) c36
        · -- 30 False
          exact absurd (by first | decide | simp [keyV, be8_len]) c30
    · -- 19 False
      exact absurd c19 (by decide)
  · -- 16 False
    exact absurd c16 (by decide)

theorem ValueReads_ret (bl : List UInt8) (v : Value) (w : World) (hl : bl.length ≤ 9223372036854775807) (hv : RdC w 0 w.heap.size 1 v bl.length (bl.map u8v)) : Ret Try.prog 6 #[v] w (fun v' w' => Below w.heap.size w w' ∧ v' = .bool true) := by
  have hb := Below.refl w.heap.size w
  refine enter (N := 39) Try.func6 rfl rfl (by simp) fun a0 hN hd hA => ?_
  have s0 : a0.tmps.getD 0 undef = v := hA 0 (by simp)
  clear hA
  refine seq_any fun K50 hK50 => ?_
  refine one_reg ?_
  refine op_assign rfl ?_
  refine reg_nil ?_
  refine hK50 _ _ ?_
  refine seq_any fun K51 hK51 => ?_
  refine seq_any fun K52 hK52 => ?_
  refine one_reg ?_
  refine op_fn (vs := []) ok30 trivial (begun4_ret _) ?_
  rintro _ w53 ⟨E54, rfl⟩
  have E54 := grown_of_below E54
  have z_w53 := E54.size
  have hv := hv.keep0 E54
  have hb := below_step0 hb E54 hb.size
  refine op_not (ev_hit hN rfl) ?_
  refine reg_nil ?_
  refine hK52 _ _ ?_
  refine wp_cond_false (ev_hit hN rfl) ?_
  refine wp_skip ?_
  refine hK51 _ _ ?_
  refine seq_any fun K55 hK55 => ?_
  refine seq_any fun K56 hK56 => ?_
  refine one_reg ?_
  refine op_move (ev_base hN rfl s0) ?_
  refine op_len_rd Try.underlying22 (ev_hit hN rfl) hv ?_
  refine op_gtr (ev_hit hN rfl) rfl (fun c13 => ?_) (fun c13 => ?_)
  · -- 13 True
    refine reg_nil ?_
    refine hK56 _ _ ?_
    refine wp_cond_true (ev_hit hN rfl) ?_
    refine seq_any fun K57 hK57 => ?_
    refine one_reg ?_
    refine op_assign rfl ?_
    refine reg_nil ?_
    refine hK57 _ _ ?_
    refine wp_ret (then_ret ( ?_))
    refine ret1 rfl hd (ev_hit hN rfl) ⟨_, rfl, ?_⟩
    -- path 13T
    exact ⟨hb, rfl⟩
  · -- 13 False
    refine reg_nil ?_
    refine hK56 _ _ ?_
    refine wp_cond_false (ev_hit hN rfl) ?_
    refine wp_skip ?_
    refine hK55 _ _ ?_
    refine seq_any fun K58 hK58 => ?_
    refine one_reg ?_
    refine op_move (ev_base hN rfl s0) ?_
    have hq59 : RdC w53 0 w53.heap.size 1 v bl.length (bl.map u8v) := by simpa using (hv.mono (L' := 0) (B' := w53.heap.size) (Nat.zero_le _) (by omega))
    refine op_fn (vs := [v]) ok40 ⟨(ev_hit hN rfl), trivial⟩ (Take_ret bl v _ (by first | assumption | omega | (simp only [List.length_append, List.length_cons, List.length_nil, List.length_drop, List.length_take]; omega) | (dsimp only; omega) | decide) hq59) ?_
    rintro _ w60 ⟨E61, rfl⟩
    have E61 := grown_of_below E61
    have z_w60 := E61.size
    have hv := hv.keep0 E61
    have hb := below_step0 hb E61 hb.size
    refine op_move (ev_hit hN rfl) ?_
    refine op_extract (ev_hit hN rfl) rfl ?_
    refine op_extract (ev_hit hN rfl) rfl ?_
    refine op_extract (ev_hit hN rfl) rfl ?_
    refine op_alloc (cs := [(Value.int .i64 0), (Value.int .i64 0), (Value.string (bs []))]) zero50 rfl ?_
    intro w62 b63 lo_b63 hi_b63 hB65 E64
    have z_w62 := E64.size
    have hv := hv.keep0 E64
    have hb := below_step0 hb E64 hb.size
    have hB65_old := hB65
    refine op_store (vs := [(Value.int .i64 (takeV bl).1.k), (Value.int .i64 (takeV bl).1.n), (Value.string (bs (takeV bl).1.s))]) (cs' := [(Value.int .i64 (takeV bl).1.k), (Value.int .i64 (takeV bl).1.n), (Value.string (bs (takeV bl).1.s))]) size50 (ev_hit hN rfl) (ev_hit hN rfl) rfl rfl rfl hB65 (Nat.le_of_ble_eq_true rfl) rfl ?_
    intro w68 hB65 E69
    have z_w68 := E69.size
    have hv := hv.keep E69 (fun k hk => .inr (by simp at hk; omega))
    have hb := below_step1 hb E69 hb.size (by omega)
    refine op_assign (ev_hit hN rfl) ?_
    refine op_assign (ev_hit hN rfl) ?_
    refine reg_nil ?_
    refine hK58 _ _ ?_
    refine seq_any fun K70 hK70 => ?_
    refine one_reg ?_
    refine op_move (ev_base hN rfl s0) ?_
    have hq71 : RdC w68 0 w68.heap.size 1 v bl.length (bl.map u8v) := by simpa using (hv.mono (L' := 0) (B' := w68.heap.size) (Nat.zero_le _) (by omega))
    refine op_fn (vs := [v]) ok41 ⟨(ev_hit hN rfl), trivial⟩ (TakeKey_ret bl v _ (by first | assumption | omega | (simp only [List.length_append, List.length_cons, List.length_nil, List.length_drop, List.length_take]; omega) | (dsimp only; omega) | decide) hq71) ?_
    rintro _ w72 ⟨E73, rfl⟩
    have E73 := grown_of_below E73
    have z_w72 := E73.size
    have hv := hv.keep0 E73
    have hB65 := hB65.keep0 E73
    have hb := below_step0 hb E73 hb.size
    refine op_move (ev_hit hN rfl) ?_
    refine op_extract (ev_hit hN rfl) rfl ?_
    refine op_extract (ev_hit hN rfl) rfl ?_
    refine op_extract (ev_hit hN rfl) rfl ?_
    refine op_alloc (cs := [(Value.int .i64 0), (Value.int .i64 0), (Value.string (bs []))]) zero50 rfl ?_
    intro w74 b75 lo_b75 hi_b75 hB77 E76
    have z_w74 := E76.size
    have hv := hv.keep0 E76
    have hB65 := hB65.keep0 E76
    have hb := below_step0 hb E76 hb.size
    have hB77_old := hB77
    refine op_store (vs := [(Value.int .i64 (takeV bl).1.k), (Value.int .i64 (takeV bl).1.n), (Value.string (bs (takeV bl).1.s))]) (cs' := [(Value.int .i64 (takeV bl).1.k), (Value.int .i64 (takeV bl).1.n), (Value.string (bs (takeV bl).1.s))]) size50 (ev_hit hN rfl) (ev_hit hN rfl) rfl rfl rfl hB77 (Nat.le_of_ble_eq_true rfl) rfl ?_
    intro w80 hB77 E81
    have z_w80 := E81.size
    have hv := hv.keep E81 (fun k hk => .inr (by simp at hk; omega))
    have hB65 := hB65.keep E81 (by simp; omega)
    have hb := below_step1 hb E81 hb.size (by omega)
    refine op_assign (ev_hit hN rfl) ?_
    refine op_assign (ev_hit hN rfl) ?_
    refine reg_nil ?_
    refine hK70 _ _ ?_
    refine seq_any fun K82 hK82 => ?_
    refine one_reg ?_
    refine op_loadA (cs := [(Value.int .i64 (takeV bl).1.k), (Value.int .i64 (takeV bl).1.n), (Value.string (bs (takeV bl).1.s))]) agg50 rfl (ev_hit hN rfl) (fun j u hu => by rw [Nat.zero_add]; exact hB65.cell hu) ?_
    refine op_loadA (cs := [(Value.int .i64 (takeV bl).1.k), (Value.int .i64 (takeV bl).1.n), (Value.string (bs (takeV bl).1.s))]) agg50 rfl (ev_hit hN rfl) (fun j u hu => by rw [Nat.zero_add]; exact hB77.cell hu) ?_
    by_cases c28 : (takeV bl).1.k = (takeV bl).1.k ∧ (takeV bl).1.n = (takeV bl).1.n ∧ (takeV bl).1.s = (takeV bl).1.s
    · -- 28 True
      refine op_aeql (xs := [(Value.int .i64 (takeV bl).1.k), (Value.int .i64 (takeV bl).1.n), (Value.string (bs (takeV bl).1.s))]) (ys := [(Value.int .i64 (takeV bl).1.k), (Value.int .i64 (takeV bl).1.n), (Value.string (bs (takeV bl).1.s))]) (b' := true) (ev_hit hN rfl) (ev_hit hN rfl) (eq50 (takeV bl).1.k (takeV bl).1.k (takeV bl).1.n (takeV bl).1.n (takeV bl).1.s (takeV bl).1.s) (decide_eq_true c28) ?_
      refine op_move (ev_hit hN rfl) ?_
      refine g_true (j := 3) (dj := 29) (b := true) rfl rfl rfl (ev_hit hN rfl) ?_
      refine op_move (ev_hit hN rfl) ?_
      refine g_true (j := 3) (dj := 29) (b := true) rfl rfl rfl (ev_hit hN rfl) ?_
      refine op_move (ev_hit hN rfl) ?_
      refine g_true (j := 3) (dj := 29) (b := true) rfl rfl rfl (ev_hit hN rfl) ?_
      refine op_eql (ev_hit hN rfl) (ev_hit hN rfl) (fun c32 => ?_) (fun c32 => ?_)
      · -- 32 True
        refine op_pick_t (ev_hit hN rfl) (ev_hit hN rfl) ?_
        refine op_move (ev_hit hN rfl) ?_
        refine g_true (j := 8) (dj := 34) (b := true) rfl rfl rfl (ev_hit hN rfl) ?_
        refine op_move (ev_hit hN rfl) ?_
        refine g_true (j := 8) (dj := 34) (b := true) rfl rfl rfl (ev_hit hN rfl) ?_
        refine op_move (ev_hit hN rfl) ?_
        refine g_true (j := 8) (dj := 34) (b := true) rfl rfl rfl (ev_hit hN rfl) ?_
        refine op_eql (ev_hit hN rfl) (ev_hit hN rfl) (fun c37 => ?_) (fun c37 => ?_)
        · -- 37 True
          refine op_pick_t (ev_hit hN rfl) (ev_hit hN rfl) ?_
          refine op_assign (ev_hit hN rfl) ?_
          refine reg_nil ?_
          refine hK82 _ _ ?_
          refine wp_ret ?_
          refine ret1 rfl hd (ev_hit hN rfl) ⟨_, rfl, ?_⟩
          -- path 13F 28T 32T 37T
          exact ⟨hb, rfl⟩
        · -- 37 False
          exact absurd rfl c37
      · -- 32 False
        exact absurd rfl c32
    · -- 28 False
      exact absurd ⟨rfl, rfl, rfl⟩ c28

end Go.Proofs.Ytkkongnmcfdioaa
