/- Walks, written by a program: what each function of the translation hands back. -/
import Derived.Test.YtkkongnmcfdioaaR2
namespace Go.Proofs.Ytkkongnmcfdioaa
open Go.Gx Go.RowKit
attribute [local irreducible] wpList Code.wp Calls

theorem rowPut_ret (l : List Vl) (v : Value) (w : World) (hl : l.length ≤ 9223372036854775807) (ho : ∀ x ∈ l, OkV x) (h : RdC w 0 w.heap.size 3 v l.length (l.flatMap cellsV)) : Ret Try.prog 49 #[v] w (fun v' w' => Below w.heap.size w w' ∧ Own w' w.heap.size 5 1 v' (putR l).length ((putR l).map u8v)) := by
  have hb := Below.refl w.heap.size w
  refine enter (N := 24) Try.func49 rfl rfl (by simp) fun a0 hN hd hA => ?_
  have s0 : a0.tmps.getD 0 undef = v := hA 0 (by simp)
  clear hA
  refine seq_any fun K1 hK1 => ?_
  refine one_reg ?_
  refine op_assign rfl ?_
  refine reg_nil ?_
  refine hK1 _ _ ?_
  refine seq_any fun K2 hK2 => ?_
  refine seq_any fun K3 hK3 => ?_
  refine one_reg ?_
  refine op_move (ev_base hN rfl s0) ?_
  refine op_fn (vs := [v]) ok47 ⟨(ev_hit hN rfl), trivial⟩ (rowMay_ret l _ _ (by first | assumption | omega | (simp only [List.length_append, List.length_cons, List.length_nil, List.length_drop, List.length_take]; omega) | (dsimp only; omega) | decide | (simp [keyV, be8_len]; done)) ho (show RdC w 0 w.heap.size 3 v l.length (l.flatMap cellsV) from by simpa [cellsV] using (h.mono (L' := 0) (B' := w.heap.size) (Nat.zero_le _) (by omega)))) ?_
  rintro _ w4 ⟨E5, rfl⟩
  have E5 := grown_of_below E5
  have z_w4 := E5.size
  have h := h.keep0 E5
  have hb := below_step0 hb E5 hb.size
  rcases Bool.eq_false_or_eq_true ((mayR l)) with c7 | c7
  · -- 7 True
    rw [c7]
    refine op_not (ev_hit hN rfl) ?_
    refine reg_nil ?_
    refine hK3 _ _ ?_
    refine wp_cond_false (ev_hit hN rfl) ?_
    refine wp_skip ?_
    refine hK2 _ _ ?_
    refine seq_any fun K6 hK6 => ?_
    refine one_reg ?_
    refine op_move (ev_base hN rfl s0) ?_
    refine op_len_rd Try.underlying65 (ev_hit hN rfl) h ?_
    refine op_conv (r := ((UInt8.ofNat l.length).toNat : Int)) (ev_hit hN rfl) us3 Try.underlying5 conv_u8 ?_
    refine op_bslice (e := 5) (pv := [(0, (Value.int .u8 ((UInt8.ofNat l.length).toNat : Int)))]) (cs := [(Value.int .u8 ((UInt8.ofNat l.length).toNat : Int))]) ⟨rfl, (ev_hit hN rfl), trivial⟩ (by kernel_rfl) ?_
    intro w7 b8 lo_b8 hi_b8 hB10 E9
    have z_w7 := E9.size
    have h := h.keep0 E9
    have hb := below_step0 hb E9 hb.size
    refine op_assign (ev_hit hN rfl) ?_
    refine reg_nil ?_
    refine hK6 _ _ ?_
    refine seq_any fun K11 hK11 => ?_
    refine seq_any fun K12 hK12 => ?_
    refine one_reg ?_
    refine op_move (ev_base hN rfl s0) ?_
    refine op_len_rd Try.underlying65 (ev_hit hN rfl) h ?_
    refine op_move rfl ?_
    refine reg_nil ?_
    refine hK12 _ _ ?_
    refine wp_block ?_
    refine loop_m (fun mz_ a w' => ∃ (i : Nat) (u : Value), mz_ = l.length - i ∧ (a.tmps.getD 0 undef = v) ∧ (a.tmps.getD 2 undef = (Value.slice none 0 0)) ∧ (a.tmps.getD 6 undef = v) ∧ (a.tmps.getD 7 undef = (Value.bool true)) ∧ (a.tmps.getD 8 undef = (Value.bool false)) ∧ (a.tmps.getD 9 undef = v) ∧ (a.tmps.getD 10 undef = (Value.int .i64 ((l.length : Nat) : Int))) ∧ (a.tmps.getD 11 undef = (Value.int .u8 ((UInt8.ofNat l.length).toNat : Int))) ∧ (a.tmps.getD 12 undef = (Value.slice (some ⟨b8, 0, none⟩) 1 1)) ∧ (a.tmps.getD 13 undef = v) ∧ (a.tmps.getD 14 undef = (Value.int .i64 ((l.length : Nat) : Int))) ∧ (a.tmps.getD 15 undef = (Value.int .i64 ((i : Nat) : Int))) ∧ (a.tmps.getD 3 undef = u) ∧ (i ≤ l.length) ∧ (Below w.heap.size w w') ∧ (RdC w' 0 w.heap.size 3 v l.length (l.flatMap cellsV)) ∧ (Own w' w.heap.size 5 1 u (UInt8.ofNat l.length :: (l.take i).flatMap keyV).length ((UInt8.ofNat l.length :: (l.take i).flatMap keyV).map u8v))) _ hN hd ⟨0, _, rfl, (sl_base hN rfl s0), (sl_hit hN rfl), (sl_hit hN rfl), (sl_hit hN rfl), (sl_hit hN rfl), (sl_hit hN rfl), (sl_hit hN rfl), (sl_hit hN rfl), (sl_hit hN rfl), (sl_hit hN rfl), (sl_hit hN rfl), (sl_hit hN rfl), (sl_hit hN rfl), Nat.zero_le _, hb, h, (Own.ofBx (base := w.heap.size) (sz := 1) (n := 1) hB10 rfl (by decide) (by omega))⟩ ?_
    rintro _ a13 w13 hN13 hd13 ⟨i, u, rfl, s13_0, s13_2, s13_6, s13_7, s13_8, s13_9, s13_10, s13_11, s13_12, s13_13, s13_14, s13_15, s13_3, hi, hb, h, hO14⟩
    have z_w13 := hb.size
    refine seq_any fun K15 hK15 => ?_
    refine one_reg ?_
    refine op_lss (ev_base hN13 rfl s13_15) (ev_base hN13 rfl s13_14) (fun c16 => ?_) (fun c16 => ?_)
    · -- 16 True
      refine reg_nil ?_
      refine hK15 _ _ ?_
      refine seq_any fun K16 hK16 => ?_
      refine wp_cond_true (ev_hit hN13 rfl) ?_
      refine wp_skip ?_
      refine hK16 _ _ ?_
      refine seq_any fun K17 hK17 => ?_
      refine wp_block ?_
      refine seq_any fun K18 hK18 => ?_
      refine one_reg ?_
      refine op_index_rd slt65 (ev_base hN13 rfl s13_13) h (ev_base hN13 rfl s13_15) (by omega) (by omega) ?_
      intro b19 o20 h0b19 h1b19 hc21
      refine op_loadA (cs := [(Value.int .i64 (l.getD i V0).k), (Value.int .i64 (l.getD i V0).n), (Value.string (bs (l.getD i V0).s))]) agg50 rfl (ev_hit hN13 rfl) (fun j u hu => hc21 j u (by have := (List.getElem?_eq_some_iff.1 hu).1; simpa using this) ((fun j u hu => el_val (l := l) (i := i) (by omega) (by omega) hu) j u hu)) ?_
      refine op_alloc (cs := [(Value.int .i64 0), (Value.int .i64 0), (Value.string (bs []))]) zero50 rfl ?_
      intro w22 b23 lo_b23 hi_b23 hB25 E24
      have z_w22 := E24.size
      have h := h.keep0 E24
      have hO14 := hO14.keep0 E24
      have hb := below_step0 hb E24 hb.size
      have hB25_old := hB25
      refine op_store (vs := [(Value.int .i64 (l.getD i V0).k), (Value.int .i64 (l.getD i V0).n), (Value.string (bs (l.getD i V0).s))]) (cs' := [(Value.int .i64 (l.getD i V0).k), (Value.int .i64 (l.getD i V0).n), (Value.string (bs (l.getD i V0).s))]) size50 (ev_hit hN13 rfl) (ev_hit hN13 rfl) rfl rfl rfl hB25 (Nat.le_of_ble_eq_true rfl) rfl ?_
      intro w28 hB25 E29
      have z_w28 := E29.size
      have h := h.keep E29 (fun k hk => .inr (by simp at hk; omega))
      have hO14 := hO14.keepX hB25_old E29 (by decide)
      have hb := below_step1 hb E29 hb.size (by omega)
      refine reg_nil ?_
      refine hK18 _ _ ?_
      refine one_reg ?_
      refine op_move (ev_base hN13 rfl s13_3) ?_
      refine op_loadA (cs := [(Value.int .i64 (l.getD i V0).k), (Value.int .i64 (l.getD i V0).n), (Value.string (bs (l.getD i V0).s))]) agg50 rfl (ev_hit hN13 rfl) (fun j u hu => by rw [Nat.zero_add]; exact hB25.cell hu) ?_
      have hx : OkV (l.getD i V0) := ok_at ho (by omega)
      have hxs := hx.2.2
      have hxn := hx.2.1
      have hxm := may_at c7 (i := i) (by omega)
      have hxl := may_len hxm
      have hacc := acc_le c7 (i := i)
      have hll := mayR_len c7
      have hq30 : RdC w28 0 w28.heap.size 1 u (UInt8.ofNat l.length :: (l.take i).flatMap keyV).length ((UInt8.ofNat l.length :: (l.take i).flatMap keyV).map u8v) := by have hh : RdC w28 0 w28.heap.size 1 _ _ _ := (hO14.rdw.mono (L' := 0) (B' := w28.heap.size) (Nat.zero_le _) (by omega)); first | simpa using hh | simpa [Nat.add_comm, Nat.add_left_comm, Nat.add_assoc] using hh
      refine op_fn (vs := [u, (Value.agg #[(Value.int .i64 (l.getD i V0).k), (Value.int .i64 (l.getD i V0).n), (Value.string (bs (l.getD i V0).s))])]) ok34 ⟨(ev_hit hN13 rfl), ⟨(ev_hit hN13 rfl), trivial⟩⟩ (Key_ret (UInt8.ofNat l.length :: (l.take i).flatMap keyV) (l.getD i V0) _ _ (by first | assumption | omega | (simp only [List.length_append, List.length_cons, List.length_nil, List.length_drop, List.length_take]; omega) | (dsimp only; omega) | decide | (simp [keyV, be8_len]; done)) (by first | assumption | omega | (simp only [List.length_append, List.length_cons, List.length_nil, List.length_drop, List.length_take]; omega) | (dsimp only; omega) | decide | (simp [keyV, be8_len]; done)) (by first | assumption | omega | (simp only [List.length_append, List.length_cons, List.length_nil, List.length_drop, List.length_take]; omega) | (dsimp only; omega) | decide | (simp [keyV, be8_len]; done)) hq30) ?_
      rintro v31 w33 ⟨E34, hO32⟩
      have E34 := grown_of_below E34
      have z_w33 := E34.size
      have h := h.keep0 E34
      have hO14 := hO14.keep0 E34
      have hB25 := hB25.keep0 E34
      have hb := below_step0 hb E34 hb.size
      have hO32 : Own w33 w28.heap.size 5 1 v31 ((UInt8.ofNat l.length :: (l.take i).flatMap keyV).length + (keyV (l.getD i V0)).length) (((UInt8.ofNat l.length :: (l.take i).flatMap keyV) ++ keyV (l.getD i V0)).map u8v) := by simpa using hO32.mono (base' := w28.heap.size) (by omega)
      refine op_assign (ev_hit hN13 rfl) ?_
      refine reg_nil ?_
      refine hK17 _ _ ?_
      refine one_reg ?_
      refine op_add (ev_base hN13 rfl s13_15) rfl (add64 (by omega)) ?_
      refine op_move (ev_hit hN13 rfl) ?_
      refine reg_nil ?_
      -- round 7T 16T
      exact loop_next _ hN13 hd13 ⟨i + 1, _, rfl, (sl_base hN13 rfl s13_0), (sl_base hN13 rfl s13_2), (sl_base hN13 rfl s13_6), (sl_base hN13 rfl s13_7), (sl_base hN13 rfl s13_8), (sl_base hN13 rfl s13_9), (sl_base hN13 rfl s13_10), (sl_base hN13 rfl s13_11), (sl_base hN13 rfl s13_12), (sl_base hN13 rfl s13_13), (sl_base hN13 rfl s13_14), (sl_hit hN13 rfl).trans (congrArg (Value.int .i64) (by omega)), (sl_hit hN13 rfl), (by omega), hb, h, (by have hq := hO32.mono (base' := w.heap.size) (by omega); rw [snoc (d := V0) (l := l) (i := i) (by omega), List.flatMap_append]; exact hq.cast (by simp; try omega) (by simp))⟩ (by omega)
    · -- 16 False
      refine reg_nil ?_
      refine hK15 _ _ ?_
      refine seq_any fun K35 hK35 => ?_
      refine wp_cond_false (ev_hit hN13 rfl) ?_
      refine wp_exit (then_exit (then_exit (blk_hit ?_)))
      refine hK11 _ _ ?_
      refine seq_any fun K36 hK36 => ?_
      refine one_reg ?_
      refine op_move (ev_base hN13 rfl s13_3) ?_
      refine op_assign (ev_hit hN13 rfl) ?_
      refine reg_nil ?_
      refine hK36 _ _ ?_
      refine wp_ret ?_
      refine ret1 rfl hd13 (ev_hit hN13 rfl) ⟨_, rfl, ?_⟩
      -- path 7T 16F
      have e : putR l = UInt8.ofNat l.length :: l.flatMap keyV := by rw [putR, c7]; rfl
      have ei : l.take i = l := List.take_of_length_le (by omega)
      have hq := hO14
      rw [ei] at hq
      exact ⟨hb, by rw [e]; exact hq⟩
  · -- 7 False
    rw [c7]
    refine op_not (ev_hit hN rfl) ?_
    refine reg_nil ?_
    refine hK3 _ _ ?_
    refine wp_cond_true (ev_hit hN rfl) ?_
    refine seq_any fun K37 hK37 => ?_
    refine one_reg ?_
    refine op_assign rfl ?_
    refine reg_nil ?_
    refine hK37 _ _ ?_
    refine wp_ret (then_ret ( ?_))
    refine ret1 rfl hd (ev_hit hN rfl) ⟨_, rfl, ?_⟩
    -- path 7F
    have e : putR l = [] := by rw [putR, c7]; rfl
    exact ⟨hb, by rw [e]; exact Own.nil _ _ _ _⟩

theorem refRow_ret (l : List Vl) (v : Value) (w : World) (hl : l.length ≤ 9223372036854775807) (ho : ∀ x ∈ l, OkV x) (h : RdC w 0 w.heap.size 3 v l.length (l.flatMap cellsV)) : Ret Try.prog 50 #[v] w (fun v' w' => Below w.heap.size w w' ∧ Own w' w.heap.size 5 1 v' (putR l).length ((putR l).map u8v)) := by
  have hb := Below.refl w.heap.size w
  refine enter (N := 25) Try.func50 rfl rfl (by simp) fun a0 hN hd hA => ?_
  have s0 : a0.tmps.getD 0 undef = v := hA 0 (by simp)
  clear hA
  refine seq_any fun K38 hK38 => ?_
  refine one_reg ?_
  refine op_assign rfl ?_
  refine reg_nil ?_
  refine hK38 _ _ ?_
  refine seq_any fun K39 hK39 => ?_
  refine seq_any fun K40 hK40 => ?_
  refine one_reg ?_
  refine op_move (ev_base hN rfl s0) ?_
  refine op_fn (vs := [v]) ok48 ⟨(ev_hit hN rfl), trivial⟩ (MayRow_ret l _ _ (by first | assumption | omega | (simp only [List.length_append, List.length_cons, List.length_nil, List.length_drop, List.length_take]; omega) | (dsimp only; omega) | decide | (simp [keyV, be8_len]; done)) ho (show RdC w 0 w.heap.size 3 v l.length (l.flatMap cellsV) from by simpa [cellsV] using (h.mono (L' := 0) (B' := w.heap.size) (Nat.zero_le _) (by omega)))) ?_
  rintro _ w41 ⟨E42, rfl⟩
  have E42 := grown_of_below E42
  have z_w41 := E42.size
  have h := h.keep0 E42
  have hb := below_step0 hb E42 hb.size
  rcases Bool.eq_false_or_eq_true ((mayR l)) with c6 | c6
  · -- 6 True
    rw [c6]
    refine op_not (ev_hit hN rfl) ?_
    refine reg_nil ?_
    refine hK40 _ _ ?_
    refine wp_cond_false (ev_hit hN rfl) ?_
    refine wp_skip ?_
    refine hK39 _ _ ?_
    refine seq_any fun K43 hK43 => ?_
    refine one_reg ?_
    refine op_move (ev_base hN rfl s0) ?_
    refine op_len_rd Try.underlying65 (ev_hit hN rfl) h ?_
    refine op_conv (r := ((UInt8.ofNat l.length).toNat : Int)) (ev_hit hN rfl) us3 Try.underlying5 conv_u8 ?_
    refine op_bslice (e := 5) (pv := [(0, (Value.int .u8 ((UInt8.ofNat l.length).toNat : Int)))]) (cs := [(Value.int .u8 ((UInt8.ofNat l.length).toNat : Int))]) ⟨rfl, (ev_hit hN rfl), trivial⟩ (by kernel_rfl) ?_
    intro w44 b45 lo_b45 hi_b45 hB47 E46
    have z_w44 := E46.size
    have h := h.keep0 E46
    have hb := below_step0 hb E46 hb.size
    refine op_assign (ev_hit hN rfl) ?_
    refine reg_nil ?_
    refine hK43 _ _ ?_
    refine seq_any fun K48 hK48 => ?_
    refine seq_any fun K49 hK49 => ?_
    refine one_reg ?_
    refine op_assign rfl ?_
    refine reg_nil ?_
    refine hK49 _ _ ?_
    refine wp_block ?_
    refine loop_m (fun mz_ a w' => ∃ (i : Nat) (u : Value), mz_ = l.length - i ∧ (a.tmps.getD 0 undef = v) ∧ (a.tmps.getD 2 undef = (Value.slice none 0 0)) ∧ (a.tmps.getD 5 undef = v) ∧ (a.tmps.getD 6 undef = (Value.bool true)) ∧ (a.tmps.getD 7 undef = (Value.bool false)) ∧ (a.tmps.getD 8 undef = v) ∧ (a.tmps.getD 9 undef = (Value.int .i64 ((l.length : Nat) : Int))) ∧ (a.tmps.getD 10 undef = (Value.int .u8 ((UInt8.ofNat l.length).toNat : Int))) ∧ (a.tmps.getD 11 undef = (Value.slice (some ⟨b45, 0, none⟩) 1 1)) ∧ (a.tmps.getD 4 undef = (Value.int .i64 ((i : Nat) : Int))) ∧ (a.tmps.getD 3 undef = u) ∧ (i ≤ l.length) ∧ (Below w.heap.size w w') ∧ (RdC w' 0 w.heap.size 3 v l.length (l.flatMap cellsV)) ∧ (Own w' w.heap.size 5 1 u (UInt8.ofNat l.length :: (l.take i).flatMap keyV).length ((UInt8.ofNat l.length :: (l.take i).flatMap keyV).map u8v))) _ hN hd ⟨0, _, rfl, (sl_base hN rfl s0), (sl_hit hN rfl), (sl_hit hN rfl), (sl_hit hN rfl), (sl_hit hN rfl), (sl_hit hN rfl), (sl_hit hN rfl), (sl_hit hN rfl), (sl_hit hN rfl), (sl_hit hN rfl), (sl_hit hN rfl), Nat.zero_le _, hb, h, (Own.ofBx (base := w.heap.size) (sz := 1) (n := 1) hB47 rfl (by decide) (by omega))⟩ ?_
    rintro _ a50 w50 hN50 hd50 ⟨i, u, rfl, s50_0, s50_2, s50_5, s50_6, s50_7, s50_8, s50_9, s50_10, s50_11, s50_4, s50_3, hi, hb, h, hO51⟩
    have z_w50 := hb.size
    refine seq_any fun K52 hK52 => ?_
    refine seq_any fun K53 hK53 => ?_
    refine one_reg ?_
    refine op_move (ev_base hN50 rfl s50_4) ?_
    refine op_move (ev_base hN50 rfl s50_0) ?_
    refine op_len_rd Try.underlying65 (ev_hit hN50 rfl) h ?_
    refine op_lss (ev_hit hN50 rfl) (ev_hit hN50 rfl) (fun c15 => ?_) (fun c15 => ?_)
    · -- 15 True
      refine reg_nil ?_
      refine hK53 _ _ ?_
      refine wp_cond_true (ev_hit hN50 rfl) ?_
      refine wp_skip ?_
      refine hK52 _ _ ?_
      refine seq_any fun K54 hK54 => ?_
      refine wp_block ?_
      refine one_reg ?_
      refine op_move (ev_base hN50 rfl s50_3) ?_
      refine op_move (ev_base hN50 rfl s50_0) ?_
      refine op_move (ev_base hN50 rfl s50_4) ?_
      refine op_index_rd slt65 (ev_hit hN50 rfl) h (ev_hit hN50 rfl) (by omega) (by omega) ?_
      intro b55 o56 h0b55 h1b55 hc57
      refine op_loadA (cs := [(Value.int .i64 (l.getD i V0).k), (Value.int .i64 (l.getD i V0).n), (Value.string (bs (l.getD i V0).s))]) agg50 rfl (ev_hit hN50 rfl) (fun j u hu => hc57 j u (by have := (List.getElem?_eq_some_iff.1 hu).1; simpa using this) ((fun j u hu => el_val (l := l) (i := i) (by omega) (by omega) hu) j u hu)) ?_
      have hx : OkV (l.getD i V0) := ok_at ho (by omega)
      have hxs := hx.2.2
      have hxn := hx.2.1
      have hxm := may_at c6 (i := i) (by omega)
      have hxl := may_len hxm
      have hacc := acc_le c6 (i := i)
      have hll := mayR_len c6
      have hq58 : RdC w50 0 w50.heap.size 1 u (UInt8.ofNat l.length :: (l.take i).flatMap keyV).length ((UInt8.ofNat l.length :: (l.take i).flatMap keyV).map u8v) := by have hh : RdC w50 0 w50.heap.size 1 _ _ _ := (hO51.rdw.mono (L' := 0) (B' := w50.heap.size) (Nat.zero_le _) (by omega)); first | simpa using hh | simpa [Nat.add_comm, Nat.add_left_comm, Nat.add_assoc] using hh
      refine op_fn (vs := [u, (Value.agg #[(Value.int .i64 (l.getD i V0).k), (Value.int .i64 (l.getD i V0).n), (Value.string (bs (l.getD i V0).s))])]) ok37 ⟨(ev_hit hN50 rfl), ⟨(ev_hit hN50 rfl), trivial⟩⟩ (RKey_ret (UInt8.ofNat l.length :: (l.take i).flatMap keyV) (l.getD i V0) _ _ (by first | assumption | omega | (simp only [List.length_append, List.length_cons, List.length_nil, List.length_drop, List.length_take]; omega) | (dsimp only; omega) | decide | (simp [keyV, be8_len]; done)) (by first | assumption | omega | (simp only [List.length_append, List.length_cons, List.length_nil, List.length_drop, List.length_take]; omega) | (dsimp only; omega) | decide | (simp [keyV, be8_len]; done)) (by first | assumption | omega | (simp only [List.length_append, List.length_cons, List.length_nil, List.length_drop, List.length_take]; omega) | (dsimp only; omega) | decide | (simp [keyV, be8_len]; done)) hq58) ?_
      rintro v59 w61 ⟨E62, hO60⟩
      have E62 := grown_of_below E62
      have z_w61 := E62.size
      have h := h.keep0 E62
      have hO51 := hO51.keep0 E62
      have hb := below_step0 hb E62 hb.size
      have hO60 : Own w61 w50.heap.size 5 1 v59 ((UInt8.ofNat l.length :: (l.take i).flatMap keyV).length + (keyR (l.getD i V0)).length) (((UInt8.ofNat l.length :: (l.take i).flatMap keyV) ++ keyR (l.getD i V0)).map u8v) := by simpa using hO60.mono (base' := w50.heap.size) (by omega)
      refine op_assign (ev_hit hN50 rfl) ?_
      refine reg_nil ?_
      refine hK54 _ _ ?_
      refine one_reg ?_
      refine op_move (ev_base hN50 rfl s50_4) ?_
      refine op_add (ev_hit hN50 rfl) rfl (add64 (by omega)) ?_
      refine op_assign (ev_hit hN50 rfl) ?_
      refine reg_nil ?_
      -- round 6T 15T
      exact loop_next _ hN50 hd50 ⟨i + 1, _, rfl, (sl_base hN50 rfl s50_0), (sl_base hN50 rfl s50_2), (sl_base hN50 rfl s50_5), (sl_base hN50 rfl s50_6), (sl_base hN50 rfl s50_7), (sl_base hN50 rfl s50_8), (sl_base hN50 rfl s50_9), (sl_base hN50 rfl s50_10), (sl_base hN50 rfl s50_11), (sl_hit hN50 rfl).trans (congrArg (Value.int .i64) (by omega)), (sl_hit hN50 rfl), (by omega), hb, h, (by have hq := hO60.mono (base' := w.heap.size) (by omega); rw [keyR_eq hxn] at hq; rw [snoc (d := V0) (l := l) (i := i) (by omega), List.flatMap_append]; exact hq.cast (by simp; try omega) (by simp))⟩ (by omega)
    · -- 15 False
      refine reg_nil ?_
      refine hK53 _ _ ?_
      refine wp_cond_false (ev_hit hN50 rfl) ?_
      refine wp_exit (then_exit (then_exit (blk_hit ?_)))
      refine hK48 _ _ ?_
      refine seq_any fun K63 hK63 => ?_
      refine one_reg ?_
      refine op_move (ev_base hN50 rfl s50_3) ?_
      refine op_assign (ev_hit hN50 rfl) ?_
      refine reg_nil ?_
      refine hK63 _ _ ?_
      refine wp_ret ?_
      refine ret1 rfl hd50 (ev_hit hN50 rfl) ⟨_, rfl, ?_⟩
      -- path 6T 15F
      have e : putR l = UInt8.ofNat l.length :: l.flatMap keyV := by rw [putR, c6]; rfl
      have ei : l.take i = l := List.take_of_length_le (by omega)
      have hq := hO51
      rw [ei] at hq
      exact ⟨hb, by rw [e]; exact hq⟩
  · -- 6 False
    rw [c6]
    refine op_not (ev_hit hN rfl) ?_
    refine reg_nil ?_
    refine hK40 _ _ ?_
    refine wp_cond_true (ev_hit hN rfl) ?_
    refine seq_any fun K64 hK64 => ?_
    refine one_reg ?_
    refine op_assign rfl ?_
    refine reg_nil ?_
    refine hK64 _ _ ?_
    refine wp_ret (then_ret ( ?_))
    refine ret1 rfl hd (ev_hit hN rfl) ⟨_, rfl, ?_⟩
    -- path 6F
    have e : putR l = [] := by rw [putR, c6]; rfl
    exact ⟨hb, by rw [e]; exact Own.nil _ _ _ _⟩

end Go.Proofs.Ytkkongnmcfdioaa
