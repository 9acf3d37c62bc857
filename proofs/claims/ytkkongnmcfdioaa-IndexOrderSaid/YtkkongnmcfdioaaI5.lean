/- Walks, written by a program: what each function of the translation hands back. -/
import Derived.Test.YtkkongnmcfdioaaI4
namespace Go.Proofs.Ytkkongnmcfdioaa
open Go.Gx Go.RowKit
attribute [local irreducible] wpList Code.wp Calls

theorem number_ret (bl : List UInt8) (n : Nat) (v : Value) (w : World) (hbl : bl.length ≤ 1000000000) (hn : n < 18446744073709551616) (hv : RdC w 0 w.heap.size 1 v bl.length (bl.map u8v)) : Ret Try.prog 79 #[v, (Value.int .u64 ((n : Nat) : Int))] w (fun v' w' => Below w.heap.size w w' ∧ Own w' w.heap.size 5 1 v' (bl.length + 8) ((bl ++ be8 n).map u8v)) := by
  have hb := Below.refl w.heap.size w
  refine enter (N := 23) Try.func79 rfl rfl (by simp) fun a0 hN hd hA => ?_
  have s0 : a0.tmps.getD 0 undef = v := hA 0 (by simp)
  have s1 : a0.tmps.getD 1 undef = (Value.int .u64 ((n : Nat) : Int)) := hA 1 (by simp)
  clear hA
  refine seq_any fun K1 hK1 => ?_
  refine one_reg ?_
  refine op_assign rfl ?_
  refine reg_nil ?_
  refine hK1 _ _ ?_
  refine seq_any fun K2 hK2 => ?_
  refine one_reg ?_
  refine op_bslice (e := 5) (pv := []) (cs := []) trivial (by kernel_rfl) ?_
  intro w3 b4 lo_b4 hi_b4 hB6 E5
  have z_w3 := E5.size
  have hv := hv.keep0 E5
  have hb := below_step0 hb E5 hb.size
  refine op_move (ev_base hN rfl s0) ?_
  have hP12 := (Own.ofBx (base := w.heap.size) (sz := 1) (n := 0) hB6 rfl (by decide) (by omega))
  refine op_append slt22 (ev_hit hN rfl) hP12 (ev_hit hN rfl) (Src.ofRd Try.underlying22 (by decide) hv (by simp [Value.oneCell', u8v])) (by unfold maxLen; omega) (by omega) hb.size ?_
  intro v7 w8 hO10 E9 hm11
  have z_w8 := E9.size
  have hv := hv.keepO hP12 E9 (by omega)
  have hb := below_stepO hb hP12 E9 hb.size (by omega)
  have hO10 : Own w8 w.heap.size 5 1 v7 (0 + bl.length) ((bl).map u8v) := by simpa [u8v, u16v, cellsV] using hO10
  refine op_assign (ev_hit hN rfl) ?_
  refine reg_nil ?_
  refine hK2 _ _ ?_
  refine seq_any fun K13 hK13 => ?_
  refine seq_any fun K14 hK14 => ?_
  refine one_reg ?_
  refine op_assign rfl ?_
  refine reg_nil ?_
  refine hK14 _ _ ?_
  refine wp_block ?_
  refine loop_m (fun mz_ a w' => ∃ (i : Nat) (y : Value), mz_ = 8 - i ∧ (a.tmps.getD 0 undef = v) ∧ (a.tmps.getD 1 undef = (Value.int .u64 ((n : Nat) : Int))) ∧ (a.tmps.getD 4 undef = (Value.slice none 0 0)) ∧ (a.tmps.getD 7 undef = (Value.slice (some ⟨b4, 0, none⟩) 0 0)) ∧ (a.tmps.getD 8 undef = v) ∧ (a.tmps.getD 9 undef = v7) ∧ (a.tmps.getD 6 undef = (Value.int .i64 (56 - 8 * (i : Int)))) ∧ (a.tmps.getD 5 undef = y) ∧ (i ≤ 8) ∧ (Below w.heap.size w w') ∧ (RdC w' 0 w.heap.size 1 v bl.length (bl.map u8v)) ∧ (Own w' w.heap.size 5 1 y (bl.length + i) ((bl ++ (be8 n).take i).map u8v))) _ hN hd ⟨0, _, rfl, (sl_base hN rfl s0), (sl_base hN rfl s1), (sl_hit hN rfl), (sl_hit hN rfl), (sl_hit hN rfl), (sl_hit hN rfl), (sl_hit hN rfl).trans (congrArg (Value.int .i64) (by omega)), (sl_hit hN rfl), Nat.zero_le _, hb, hv, (hO10.cast (by first | omega | (simp; try omega)) (by simp))⟩ ?_
  rintro _ a15 w15 hN15 hd15 ⟨i, y, rfl, s15_0, s15_1, s15_4, s15_7, s15_8, s15_9, s15_6, s15_5, hi, hb, hv, hO16⟩
  have z_w15 := hb.size
  refine seq_any fun K17 hK17 => ?_
  refine seq_any fun K18 hK18 => ?_
  refine one_reg ?_
  refine op_move (ev_base hN15 rfl s15_6) ?_
  refine op_geq (ev_hit hN15 rfl) rfl (fun c11 => ?_) (fun c11 => ?_)
  · -- 11 True
    refine reg_nil ?_
    refine hK18 _ _ ?_
    refine wp_cond_true (ev_hit hN15 rfl) ?_
    refine wp_skip ?_
    refine hK17 _ _ ?_
    refine seq_any fun K19 hK19 => ?_
    refine wp_block ?_
    refine one_reg ?_
    refine op_move (ev_base hN15 rfl s15_5) ?_
    refine op_move (ev_base hN15 rfl s15_1) ?_
    refine op_move (ev_base hN15 rfl s15_6) ?_
    refine op_conv (r := (56 - 8 * (i : Int))) (ev_hit hN15 rfl) us3 Try.underlying95 (wrap_u64 (by omega)) ?_
    refine op_shr (r := (((n / 2 ^ (56 - 8 * i)) : Nat) : Int)) (ev_hit hN15 rfl) (ev_hit hN15 rfl) (by omega) (shr_nat (j := 56 - 8 * i) (by omega) (by show 56 - 8 * i ≤ 64; omega)) ?_
    refine op_conv (r := ((UInt8.ofNat (n / 2 ^ (56 - 8 * i))).toNat : Int)) (ev_hit hN15 rfl) us76 Try.underlying5 conv_u8 ?_
    refine op_bslice (e := 5) (pv := [(0, (Value.int .u8 ((UInt8.ofNat (n / 2 ^ (56 - 8 * i))).toNat : Int)))]) (cs := [(Value.int .u8 ((UInt8.ofNat (n / 2 ^ (56 - 8 * i))).toNat : Int))]) ⟨rfl, (ev_hit hN15 rfl), trivial⟩ (by kernel_rfl) ?_
    intro w20 b21 lo_b21 hi_b21 hB23 E22
    have ne_b21_y : y.ownBlock ≠ some b21 := fun hh => by have := (hO16.lt _ hh).2; omega
    have z_w20 := E22.size
    have hv := hv.keep0 E22
    have hO16 := hO16.keep0 E22
    have hb := below_step0 hb E22 hb.size
    have hP29 := hO16
    refine op_append slt22 (ev_hit hN15 rfl) hP29 (ev_hit hN15 rfl) (Src.ofRd Try.underlying22 (by decide) (RdC.ofBx (sz := 1) (n := 1) hB23 rfl (by decide)) (by simp [Value.oneCell', u8v])) (by unfold maxLen; omega) (by omega) hb.size ?_
    intro v24 w25 hO27 E26 hm28
    have z_w25 := E26.size
    have hv := hv.keepO hP29 E26 (by omega)
    have hB23 := hB23.keep E26 (fun hh => ne_b21_y hh.symm)
    have hb := below_stepO hb hP29 E26 hb.size (by omega)
    have hO27 : Own w25 w.heap.size 5 1 v24 ((bl.length + i) + 1) ((((bl ++ (be8 n).take i) ++ [(UInt8.ofNat (n / 2 ^ (56 - 8 * i)))])).map u8v) := by simpa [u8v, u16v, cellsV] using hO27
    have ne_b21_v24 : v24.ownBlock ≠ some b21 := ne_step (w1 := w20) ⟨E26, hm28⟩ (by omega) ne_b21_y
    refine op_assign (ev_hit hN15 rfl) ?_
    refine reg_nil ?_
    refine hK19 _ _ ?_
    refine one_reg ?_
    refine op_move (ev_base hN15 rfl s15_6) ?_
    refine op_sub (ev_hit hN15 rfl) rfl (sub64 (by omega)) ?_
    refine op_assign (ev_hit hN15 rfl) ?_
    refine reg_nil ?_
    -- round 11T
    exact loop_next _ hN15 hd15 ⟨i + 1, _, rfl, (sl_base hN15 rfl s15_0), (sl_base hN15 rfl s15_1), (sl_base hN15 rfl s15_4), (sl_base hN15 rfl s15_7), (sl_base hN15 rfl s15_8), (sl_base hN15 rfl s15_9), (sl_hit hN15 rfl).trans (congrArg (Value.int .i64) (by omega)), (sl_hit hN15 rfl), (by omega), hb, hv, (hO27.cast (by first | omega | (simp; try omega)) (by rw [be8_take (by omega)]; simp))⟩ (by omega)
  · -- 11 False
    refine reg_nil ?_
    refine hK18 _ _ ?_
    refine wp_cond_false (ev_hit hN15 rfl) ?_
    refine wp_exit (then_exit (then_exit (blk_hit ?_)))
    refine hK13 _ _ ?_
    refine seq_any fun K30 hK30 => ?_
    refine one_reg ?_
    refine op_move (ev_base hN15 rfl s15_5) ?_
    refine op_assign (ev_hit hN15 rfl) ?_
    refine reg_nil ?_
    refine hK30 _ _ ?_
    refine wp_ret ?_
    refine ret1 rfl hd15 (ev_hit hN15 rfl) ⟨_, rfl, ?_⟩
    -- path 11F
    have hi8 : i = 8 := by omega
    subst hi8
    have hq := hO16
    rw [List.take_of_length_le (by rw [be8_len]; omega)] at hq
    exact ⟨hb, hq⟩

theorem behN_ret (bl : List UInt8) (n : Nat) (v : Value) (w : World) (hbl : bl.length ≤ 1000000000) (hn : n < 18446744073709551616) (hv : RdC w 0 w.heap.size 1 v bl.length (bl.map u8v)) : Ret Try.prog 76 #[v, (Value.int .u64 ((n : Nat) : Int)), (Value.func (.func 79) #[] #[])] w (fun v' w' => Below w.heap.size w w' ∧ Own w' w.heap.size 5 1 v' (bl.length + 8) ((bl ++ be8 n).map u8v)) := by
  have hb := Below.refl w.heap.size w
  refine enter (N := 11) Try.func76 rfl rfl (by simp) fun a0 hN hd hA => ?_
  have s0 : a0.tmps.getD 0 undef = v := hA 0 (by simp)
  have s1 : a0.tmps.getD 1 undef = (Value.int .u64 ((n : Nat) : Int)) := hA 1 (by simp)
  have s2 : a0.tmps.getD 2 undef = (Value.func (.func 79) #[] #[]) := hA 2 (by simp)
  clear hA
  refine seq_any fun K31 hK31 => ?_
  refine one_reg ?_
  refine op_assign rfl ?_
  refine reg_nil ?_
  refine hK31 _ _ ?_
  refine seq_any fun K32 hK32 => ?_
  refine one_reg ?_
  refine op_move (ev_base hN rfl s2) ?_
  refine op_move (ev_base hN rfl s0) ?_
  refine op_move (ev_base hN rfl s1) ?_
  have hq33 : RdC w 0 w.heap.size 1 v bl.length (bl.map u8v) := by have hh : RdC w 0 w.heap.size 1 _ _ _ := (hv.mono (L' := 0) (B' := w.heap.size) (Nat.zero_le _) (by omega)); first | simpa using hh | simpa [Nat.add_comm, Nat.add_left_comm, Nat.add_assoc] using hh | exact hh.cast (by simp; try omega) (by simp)
  refine op_fnv (fs := []) (vs := [v, (Value.int .u64 ((n : Nat) : Int))]) (cs := []) (ev_hit hN rfl) ok79 ⟨(ev_hit hN rfl), ⟨(ev_hit hN rfl), trivial⟩⟩ (number_ret bl n _ _ (by first | assumption | omega | (simp only [List.length_append, List.length_cons, List.length_nil, List.length_drop, List.length_take]; omega) | (dsimp only; omega) | decide | (simp [keyV, be8_len]; done)) (by first | assumption | omega | (simp only [List.length_append, List.length_cons, List.length_nil, List.length_drop, List.length_take]; omega) | (dsimp only; omega) | decide | (simp [keyV, be8_len]; done)) hq33) ?_
  rintro v34 w35 ⟨E36, hO34⟩
  have E36 := grown_of_below E36
  have z_w35 := E36.size
  have hv := hv.keep0 E36
  have hb := below_step0 hb E36 hb.size
  have hO34 := hO34.mono (base' := w.heap.size) (by omega)
  refine op_assign (ev_hit hN rfl) ?_
  refine reg_nil ?_
  refine hK32 _ _ ?_
  refine wp_ret ?_
  refine ret1 rfl hd (ev_hit hN rfl) ⟨_, rfl, ?_⟩
  -- path
  exact ⟨hb, hO34.mono (by omega)⟩

theorem behL_ret (bl : List UInt8) (l : Lb) (v u : Value) (w : World) (hbl : bl.length ≤ 1000000000) (hl : l.length ≤ 1000000000) (hv : RdC w 0 w.heap.size 1 v bl.length (bl.map u8v)) (h : RdC w 0 w.heap.size 1 u l.length (l.map u16v)) : Ret Try.prog 77 #[v, u, (Value.func (.func 78) #[] #[])] w (fun v' w' => Below w.heap.size w w' ∧ Own w' w.heap.size 5 1 v' (bl.length + (putL l).length) ((bl ++ putL l).map u8v)) := by
  have hb := Below.refl w.heap.size w
  refine enter (N := 11) Try.func77 rfl rfl (by simp) fun a0 hN hd hA => ?_
  have s0 : a0.tmps.getD 0 undef = v := hA 0 (by simp)
  have s1 : a0.tmps.getD 1 undef = u := hA 1 (by simp)
  have s2 : a0.tmps.getD 2 undef = (Value.func (.func 78) #[] #[]) := hA 2 (by simp)
  clear hA
  refine seq_any fun K37 hK37 => ?_
  refine one_reg ?_
  refine op_assign rfl ?_
  refine reg_nil ?_
  refine hK37 _ _ ?_
  refine seq_any fun K38 hK38 => ?_
  refine one_reg ?_
  refine op_move (ev_base hN rfl s2) ?_
  refine op_move (ev_base hN rfl s0) ?_
  refine op_move (ev_base hN rfl s1) ?_
  have hq39 : RdC w 0 w.heap.size 1 v bl.length (bl.map u8v) := by have hh : RdC w 0 w.heap.size 1 _ _ _ := (hv.mono (L' := 0) (B' := w.heap.size) (Nat.zero_le _) (by omega)); first | simpa using hh | simpa [Nat.add_comm, Nat.add_left_comm, Nat.add_assoc] using hh | exact hh.cast (by simp; try omega) (by simp)
  refine op_fnv (fs := []) (vs := [v, u]) (cs := []) (ev_hit hN rfl) ok78 ⟨(ev_hit hN rfl), ⟨(ev_hit hN rfl), trivial⟩⟩ (labPut_ret bl l _ _ _ (by first | assumption | omega | (simp only [List.length_append, List.length_cons, List.length_nil, List.length_drop, List.length_take]; omega) | (dsimp only; omega) | decide | (simp [keyV, be8_len]; done)) (by first | assumption | omega | (simp only [List.length_append, List.length_cons, List.length_nil, List.length_drop, List.length_take]; omega) | (dsimp only; omega) | decide | (simp [keyV, be8_len]; done)) hq39 (show RdC w 0 w.heap.size 1 u l.length (l.map u16v) from by have hh : RdC w 0 w.heap.size 1 _ _ _ := (h.mono (L' := 0) (B' := w.heap.size) (Nat.zero_le _) (by omega)); first | exact hh | exact hh.cast (by first | omega | (simp; try omega)) (by first | rfl | simp [u16v]))) ?_
  rintro v40 w41 ⟨E42, hO40⟩
  have E42 := grown_of_below E42
  have z_w41 := E42.size
  have hv := hv.keep0 E42
  have h := h.keep0 E42
  have hb := below_step0 hb E42 hb.size
  have hO40 := hO40.mono (base' := w.heap.size) (by omega)
  refine op_assign (ev_hit hN rfl) ?_
  refine reg_nil ?_
  refine hK38 _ _ ?_
  refine wp_ret ?_
  refine ret1 rfl hd (ev_hit hN rfl) ⟨_, rfl, ?_⟩
  -- path
  exact ⟨hb, hO40.mono (by omega)⟩

theorem behV_ret (bl : List UInt8) (x : Vl) (v : Value) (w : World) (hl : bl.length ≤ 1000000000) (hs : x.s.length ≤ 1000000000) (hn : -9223372036854775808 ≤ x.n ∧ x.n ≤ 9223372036854775807) (hv : RdC w 0 w.heap.size 1 v bl.length (bl.map u8v)) : Ret Try.prog 81 #[v, (Value.agg #[(Value.int .i64 x.k), (Value.int .i64 x.n), (Value.string (bs x.s))]), (Value.func (.func 34) #[] #[])] w (fun v' w' => Below w.heap.size w w' ∧ Own w' w.heap.size 5 1 v' (bl.length + (keyV x).length) ((bl ++ keyV x).map u8v)) := by
  have hb := Below.refl w.heap.size w
  refine enter (N := 11) Try.func81 rfl rfl (by simp) fun a0 hN hd hA => ?_
  have s0 : a0.tmps.getD 0 undef = v := hA 0 (by simp)
  have s1 : a0.tmps.getD 1 undef = (Value.agg #[(Value.int .i64 x.k), (Value.int .i64 x.n), (Value.string (bs x.s))]) := hA 1 (by simp)
  have s2 : a0.tmps.getD 2 undef = (Value.func (.func 34) #[] #[]) := hA 2 (by simp)
  clear hA
  refine seq_any fun K43 hK43 => ?_
  refine one_reg ?_
  refine op_box (cs := [(Value.int .i64 x.k), (Value.int .i64 x.n), (Value.string (bs x.s))]) (ev_base hN rfl s1) rfl ?_
  intro w44 b45 lo_b45 hi_b45 hB47 E46
  have z_w44 := E46.size
  have hv := hv.keep0 E46
  have hb := below_step0 hb E46 hb.size
  refine op_assign rfl ?_
  refine reg_nil ?_
  refine hK43 _ _ ?_
  refine seq_any fun K48 hK48 => ?_
  refine one_reg ?_
  refine op_move (ev_base hN rfl s2) ?_
  refine op_move (ev_base hN rfl s0) ?_
  refine op_loadA (cs := [(Value.int .i64 x.k), (Value.int .i64 x.n), (Value.string (bs x.s))]) agg50 rfl (ev_hit hN rfl) (fun j u hu => by rw [Nat.zero_add]; exact hB47.cell hu) ?_
  have hq49 : RdC w44 0 w44.heap.size 1 v bl.length (bl.map u8v) := by have hh : RdC w44 0 w44.heap.size 1 _ _ _ := (hv.mono (L' := 0) (B' := w44.heap.size) (Nat.zero_le _) (by omega)); first | simpa using hh | simpa [Nat.add_comm, Nat.add_left_comm, Nat.add_assoc] using hh | exact hh.cast (by simp; try omega) (by simp)
  refine op_fnv (fs := []) (vs := [v, (Value.agg #[(Value.int .i64 x.k), (Value.int .i64 x.n), (Value.string (bs x.s))])]) (cs := []) (ev_hit hN rfl) ok34 ⟨(ev_hit hN rfl), ⟨(ev_hit hN rfl), trivial⟩⟩ (Key_ret bl x _ _ (by first | assumption | omega | (simp only [List.length_append, List.length_cons, List.length_nil, List.length_drop, List.length_take]; omega) | (dsimp only; omega) | decide | (simp [keyV, be8_len]; done)) (by first | assumption | omega | (simp only [List.length_append, List.length_cons, List.length_nil, List.length_drop, List.length_take]; omega) | (dsimp only; omega) | decide | (simp [keyV, be8_len]; done)) (by first | assumption | omega | (simp only [List.length_append, List.length_cons, List.length_nil, List.length_drop, List.length_take]; omega) | (dsimp only; omega) | decide | (simp [keyV, be8_len]; done)) hq49) ?_
  rintro v50 w52 ⟨E53, hO51⟩
  have E53 := grown_of_below E53
  have z_w52 := E53.size
  have hv := hv.keep0 E53
  have hB47 := hB47.keep0 E53
  have hb := below_step0 hb E53 hb.size
  have hO51 : Own w52 w44.heap.size 5 1 v50 (bl.length + (keyV x).length) ((bl ++ keyV x).map u8v) := by simpa using hO51.mono (base' := w44.heap.size) (by omega)
  refine op_assign (ev_hit hN rfl) ?_
  refine reg_nil ?_
  refine hK48 _ _ ?_
  refine wp_ret ?_
  refine ret1 rfl hd (ev_hit hN rfl) ⟨_, rfl, ?_⟩
  -- path
  exact ⟨hb, hO51.mono (by omega)⟩

end Go.Proofs.Ytkkongnmcfdioaa
