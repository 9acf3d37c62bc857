/- Walks, written by a program: what each function of the translation hands back. -/
import Derived.Test.YtkkongnmcfdioaaI6
namespace Go.Proofs.Ytkkongnmcfdioaa
open Go.Gx Go.RowKit
attribute [local irreducible] wpList Code.wp Calls

theorem IXTake_ret (bl : List UInt8) (v : Value) (w : World) (hl : bl.length ≤ 1000000000000) (hv : RdC w 0 w.heap.size 1 v bl.length (bl.map u8v)) : Ret Try.prog 55 #[v] w (fun v' w' => Below w.heap.size w w' ∧ ∃ u, v' = .tuple #[.agg #[.int .i64 (takeX bl).1.k, .int .i64 (takeX bl).1.n, .string (bs (takeX bl).1.s)], u, .int .u64 ((takeX bl).2.2.1 : Int), .int .i64 (takeX bl).2.2.2] ∧ Own w' w.heap.size 46 1 u (takeX bl).2.1.length ((takeX bl).2.1.map u16v)) := by
  have htl := takeV_len bl
  have hb := Below.refl w.heap.size w
  refine enter (N := 64) Try.func55 rfl rfl (by simp) fun a0 hN hd hA => ?_
  have s0 : a0.tmps.getD 0 undef = v := hA 0 (by simp)
  clear hA
  refine seq_any fun K1 hK1 => ?_
  refine one_reg ?_
  refine op_alloc (cs := [(Value.int .i64 0), (Value.int .i64 0), (Value.string (bs []))]) zero50 rfl ?_
  intro w2 b3 lo_b3 hi_b3 hB5 E4
  have z_w2 := E4.size
  have hv := hv.keep0 E4
  have hb := below_step0 hb E4 hb.size
  refine op_assign rfl ?_
  refine op_assign rfl ?_
  refine op_assign rfl ?_
  refine reg_nil ?_
  refine hK1 _ _ ?_
  refine seq_any fun K6 hK6 => ?_
  refine one_reg ?_
  refine op_move (ev_base hN rfl s0) ?_
  have hq7 : RdC w2 0 w2.heap.size 1 v bl.length (bl.map u8v) := by have hh : RdC w2 0 w2.heap.size 1 _ _ _ := (hv.mono (L' := 0) (B' := w2.heap.size) (Nat.zero_le _) (by omega)); first | simpa using hh | simpa [Nat.add_comm, Nat.add_left_comm, Nat.add_assoc] using hh | exact hh.cast (by simp; try omega) (by simp)
  refine op_fn (vs := [v]) ok40 ⟨(ev_hit hN rfl), trivial⟩ (Take_ret bl v _ (by first | assumption | omega | (simp only [List.length_append, List.length_cons, List.length_nil, List.length_drop, List.length_take]; omega) | (dsimp only; omega) | decide | (simp [keyV, be8_len]; done)) hq7) ?_
  rintro _ w8 ⟨E9, rfl⟩
  have E9 := grown_of_below E9
  have z_w8 := E9.size
  have hv := hv.keep0 E9
  have hB5 := hB5.keep0 E9
  have hb := below_step0 hb E9 hb.size
  refine op_move (ev_hit hN rfl) ?_
  refine op_extract (ev_hit hN rfl) rfl ?_
  refine op_extract (ev_hit hN rfl) rfl ?_
  refine op_extract (ev_hit hN rfl) rfl ?_
  have hB5_old := hB5
  refine op_store (vs := [(Value.int .i64 (takeV bl).1.k), (Value.int .i64 (takeV bl).1.n), (Value.string (bs (takeV bl).1.s))]) (cs' := [(Value.int .i64 (takeV bl).1.k), (Value.int .i64 (takeV bl).1.n), (Value.string (bs (takeV bl).1.s))]) size50 (ev_hit hN rfl) (ev_hit hN rfl) rfl rfl rfl hB5 (Nat.le_of_ble_eq_true rfl) rfl ?_
  intro w12 hB5 E13
  have z_w12 := E13.size
  have hv := hv.keep E13 (fun k hk => .inr (by simp at hk; omega))
  have hb := below_step1 hb E13 hb.size (by omega)
  refine op_assign (ev_hit hN rfl) ?_
  refine op_assign (ev_hit hN rfl) ?_
  refine reg_nil ?_
  refine hK6 _ _ ?_
  refine seq_any fun K14 hK14 => ?_
  refine seq_any fun K15 hK15 => ?_
  refine one_reg ?_
  refine op_move (ev_hit hN rfl) ?_
  refine op_neq (ev_hit hN rfl) rfl (fun c18 => ?_) (fun c18 => ?_)
  · -- 18 True
    refine reg_nil ?_
    refine hK15 _ _ ?_
    refine wp_cond_true (ev_hit hN rfl) ?_
    refine seq_any fun K16 hK16 => ?_
    refine one_reg ?_
    refine op_build (pv := []) (v := (Value.agg #[(Value.int .i64 0), (Value.int .i64 0), (Value.string (bs []))])) trivial (by kernel_rfl) ?_
    refine op_move (ev_hit hN rfl) ?_
    have hB5_old := hB5
    refine op_store (vs := [(Value.int .i64 0), (Value.int .i64 0), (Value.string (bs []))]) (cs' := [(Value.int .i64 0), (Value.int .i64 0), (Value.string (bs []))]) size50 (ev_hit hN rfl) (ev_hit hN rfl) rfl rfl rfl hB5 (Nat.le_of_ble_eq_true rfl) rfl ?_
    intro w19 hB5 E20
    have z_w19 := E20.size
    have hv := hv.keep E20 (fun k hk => .inr (by simp at hk; omega))
    have hb := below_step1 hb E20 hb.size (by omega)
    refine op_assign rfl ?_
    refine op_assign rfl ?_
    refine op_assign (ev_hit hN rfl) ?_
    refine reg_nil ?_
    refine hK16 _ _ ?_
    refine wp_ret (then_ret ( ?_))
    refine retN (rs := [.cell 2 50, .tmp 3, .tmp 4, .tmp 5]) (vs := [(Value.agg #[(Value.int .i64 0), (Value.int .i64 0), (Value.string (bs []))]), (Value.slice none 0 0), (Value.int .u64 0), (Value.int .i64 (takeV bl).2.2)]) rfl hd ⟨⟨_, (ev_hit hN rfl), run_loadA (cs := [(Value.int .i64 0), (Value.int .i64 0), (Value.string (bs []))]) agg50 rfl (fun j u hu => by rw [Nat.zero_add]; exact hB5.cell hu)⟩, ⟨(ev_hit hN rfl), ⟨(ev_hit hN rfl), ⟨(ev_hit hN rfl), trivial⟩⟩⟩⟩ rfl ⟨_, rfl, ?_⟩
    -- path 18T
    have e : takeX bl = (V0, [], 0, (takeV bl).2.2) := by rw [takeX, if_pos (by omega)]
    exact ⟨hb, _, by rw [e]; rfl, by rw [e]; exact Own.nil _ _ _ _⟩
  · -- 18 False
    refine reg_nil ?_
    refine hK15 _ _ ?_
    refine wp_cond_false (ev_hit hN rfl) ?_
    refine wp_skip ?_
    refine hK14 _ _ ?_
    refine seq_any fun K21 hK21 => ?_
    refine one_reg ?_
    refine op_move (ev_base hN rfl s0) ?_
    refine op_move (ev_hit hN rfl) ?_
    refine op_slice_rd (lo := (takeV bl).2.1.toNat) (hi := bl.length) slt22 (ev_hit hN rfl) hv (.inr ⟨_, _, rfl, (ev_hit hN rfl).trans (congrArg (Value.int _) (by omega))⟩) (.inl ⟨rfl, rfl⟩) (by omega) (by omega) ?_
    intro v22 hR23
    have hR23 : RdC w12 0 w.heap.size 1 v22 (bl.length - (takeV bl).2.1.toNat) (((bl.drop (takeV bl).2.1.toNat)).map u8v) := by simpa [List.map_drop, List.take_of_length_le] using hR23
    have hq24 : RdC w12 0 w12.heap.size 1 v22 (bl.drop (takeV bl).2.1.toNat).length ((bl.drop (takeV bl).2.1.toNat).map u8v) := by have hh : RdC w12 0 w12.heap.size 1 _ _ _ := (hR23.mono (L' := 0) (B' := w12.heap.size) (Nat.zero_le _) (by omega)); first | simpa using hh | simpa [Nat.add_comm, Nat.add_left_comm, Nat.add_assoc] using hh | exact hh.cast (by simp; try omega) (by simp)
    refine op_fn (vs := [v22]) ok74 ⟨(ev_hit hN rfl), trivial⟩ (labTake_ret (bl.drop (takeV bl).2.1.toNat) v22 _ (by first | assumption | omega | (simp only [List.length_append, List.length_cons, List.length_nil, List.length_drop, List.length_take]; omega) | (dsimp only; omega) | decide | (simp [keyV, be8_len]; done)) hq24) ?_
    rintro _ w26 ⟨E27, u25, rfl, hO25⟩
    have E27 := grown_of_below E27
    have z_w26 := E27.size
    have hv := hv.keep0 E27
    have hB5 := hB5.keep0 E27
    have hR23 := hR23.keep0 E27
    have hb := below_step0 hb E27 hb.size
    have hO25 := hO25.mono (base' := w12.heap.size) (by omega)
    refine op_move (ev_hit hN rfl) ?_
    refine op_extract (ev_hit hN rfl) rfl ?_
    refine op_extract (ev_hit hN rfl) rfl ?_
    refine op_extract (ev_hit hN rfl) rfl ?_
    refine op_assign (ev_hit hN rfl) ?_
    refine op_assign (ev_hit hN rfl) ?_
    refine op_assign (ev_hit hN rfl) ?_
    refine reg_nil ?_
    refine hK21 _ _ ?_
    refine seq_any fun K28 hK28 => ?_
    refine one_reg ?_
    have htl2 := takeL_len (bl.drop (takeV bl).2.1.toNat)
    have hdl : (bl.drop (takeV bl).2.1.toNat).length = bl.length - (takeV bl).2.1.toNat := by simp
    refine op_move (ev_base hN rfl s0) ?_
    refine op_move (ev_hit hN rfl) ?_
    refine op_move (ev_hit hN rfl) ?_
    refine op_add (ev_hit hN rfl) (ev_hit hN rfl) (add64 (by omega)) ?_
    refine op_slice_rd (lo := ((takeV bl).2.1.toNat + (takeL (bl.drop (takeV bl).2.1.toNat)).2.1.toNat)) (hi := bl.length) slt22 (ev_hit hN rfl) hv (.inr ⟨_, _, rfl, (ev_hit hN rfl).trans (congrArg (Value.int _) (by omega))⟩) (.inl ⟨rfl, rfl⟩) (by simp at htl2; omega) (by omega) ?_
    intro v29 hR30
    have hR30 : RdC w26 0 w.heap.size 1 v29 (bl.length - ((takeV bl).2.1.toNat + (takeL (bl.drop (takeV bl).2.1.toNat)).2.1.toNat)) (((bl.drop ((takeV bl).2.1.toNat + (takeL (bl.drop (takeV bl).2.1.toNat)).2.1.toNat))).map u8v) := by simpa [List.map_drop, List.take_of_length_le] using hR30
    refine op_assign (ev_hit hN rfl) ?_
    refine reg_nil ?_
    refine hK28 _ _ ?_
    refine seq_any fun K31 hK31 => ?_
    refine wp_block ?_
    refine seq_any fun K32 hK32 => ?_
    refine one_reg ?_
    refine op_move (ev_hit hN rfl) ?_
    refine op_neq (ev_hit hN rfl) rfl (fun c36 => ?_) (fun c36 => ?_)
    · -- 36 True
      refine op_assign (ev_hit hN rfl) ?_
      refine reg_nil ?_
      refine hK32 _ _ ?_
      refine wp_cond_true (ev_hit hN rfl) ?_
      refine seq_any fun K33 hK33 => ?_
      refine one_reg ?_
      refine op_build (pv := []) (v := (Value.agg #[(Value.int .i64 0), (Value.int .i64 0), (Value.string (bs []))])) trivial (by kernel_rfl) ?_
      refine op_move (ev_hit hN rfl) ?_
      have hB5_old := hB5
      refine op_store (vs := [(Value.int .i64 0), (Value.int .i64 0), (Value.string (bs []))]) (cs' := [(Value.int .i64 0), (Value.int .i64 0), (Value.string (bs []))]) size50 (ev_hit hN rfl) (ev_hit hN rfl) rfl rfl rfl hB5 (Nat.le_of_ble_eq_true rfl) rfl ?_
      intro w36 hB5 E37
      have z_w36 := E37.size
      have hv := hv.keep E37 (fun k hk => .inr (by simp at hk; omega))
      have hR23 := hR23.keep E37 (fun k hk => .inr (by simp at hk; omega))
      have hO25 := hO25.keepX hB5_old E37 (by decide)
      have hR30 := hR30.keep E37 (fun k hk => .inr (by simp at hk; omega))
      have hb := below_step1 hb E37 hb.size (by omega)
      refine op_assign rfl ?_
      refine op_assign rfl ?_
      refine op_assign (ev_hit hN rfl) ?_
      refine reg_nil ?_
      refine hK33 _ _ ?_
      refine wp_ret (blk_ret (then_ret ( ?_)))
      refine retN (rs := [.cell 2 50, .tmp 3, .tmp 4, .tmp 5]) (vs := [(Value.agg #[(Value.int .i64 0), (Value.int .i64 0), (Value.string (bs []))]), (Value.slice none 0 0), (Value.int .u64 0), (Value.int .i64 (takeL (bl.drop (takeV bl).2.1.toNat)).2.2)]) rfl hd ⟨⟨_, (ev_hit hN rfl), run_loadA (cs := [(Value.int .i64 0), (Value.int .i64 0), (Value.string (bs []))]) agg50 rfl (fun j u hu => by rw [Nat.zero_add]; exact hB5.cell hu)⟩, ⟨(ev_hit hN rfl), ⟨(ev_hit hN rfl), ⟨(ev_hit hN rfl), trivial⟩⟩⟩⟩ rfl ⟨_, rfl, ?_⟩
      -- path 18F 36T
      have e : takeX bl = (V0, [], 0, (takeL (bl.drop (takeV bl).2.1.toNat)).2.2) := by rw [takeX, if_neg (by omega), if_pos (by omega)]
      exact ⟨hb, _, by rw [e]; rfl, by rw [e]; exact Own.nil _ _ _ _⟩
    · -- 36 False
      refine op_assign (ev_hit hN rfl) ?_
      refine reg_nil ?_
      refine hK32 _ _ ?_
      refine wp_cond_false (ev_hit hN rfl) ?_
      refine seq_any fun K38 hK38 => ?_
      refine one_reg ?_
      refine op_move (ev_hit hN rfl) ?_
      refine op_len_rd Try.underlying22 (ev_hit hN rfl) hR30 ?_
      refine op_lss (ev_hit hN rfl) rfl (fun c42 => ?_) (fun c42 => ?_)
      · -- 42 True
        refine op_assign (ev_hit hN rfl) ?_
        refine reg_nil ?_
        refine hK38 _ _ ?_
        refine wp_cond_true (ev_hit hN rfl) ?_
        refine seq_any fun K39 hK39 => ?_
        refine one_reg ?_
        refine op_build (pv := []) (v := (Value.agg #[(Value.int .i64 0), (Value.int .i64 0), (Value.string (bs []))])) trivial (by kernel_rfl) ?_
        have hB5_old := hB5
        refine op_store (vs := [(Value.int .i64 0), (Value.int .i64 0), (Value.string (bs []))]) (cs' := [(Value.int .i64 0), (Value.int .i64 0), (Value.string (bs []))]) size50 (ev_hit hN rfl) (ev_hit hN rfl) rfl rfl rfl hB5 (Nat.le_of_ble_eq_true rfl) rfl ?_
        intro w42 hB5 E43
        have z_w42 := E43.size
        have hv := hv.keep E43 (fun k hk => .inr (by simp at hk; omega))
        have hR23 := hR23.keep E43 (fun k hk => .inr (by simp at hk; omega))
        have hO25 := hO25.keepX hB5_old E43 (by decide)
        have hR30 := hR30.keep E43 (fun k hk => .inr (by simp at hk; omega))
        have hb := below_step1 hb E43 hb.size (by omega)
        refine op_assign rfl ?_
        refine op_assign rfl ?_
        refine op_assign rfl ?_
        refine reg_nil ?_
        refine hK39 _ _ ?_
        refine wp_ret (blk_ret (then_ret ( ?_)))
        refine retN (rs := [.cell 2 50, .tmp 3, .tmp 4, .tmp 5]) (vs := [(Value.agg #[(Value.int .i64 0), (Value.int .i64 0), (Value.string (bs []))]), (Value.slice none 0 0), (Value.int .u64 0), (Value.int .i64 2)]) rfl hd ⟨⟨_, (ev_hit hN rfl), run_loadA (cs := [(Value.int .i64 0), (Value.int .i64 0), (Value.string (bs []))]) agg50 rfl (fun j u hu => by rw [Nat.zero_add]; exact hB5.cell hu)⟩, ⟨(ev_hit hN rfl), ⟨(ev_hit hN rfl), ⟨(ev_hit hN rfl), trivial⟩⟩⟩⟩ rfl ⟨_, rfl, ?_⟩
        -- path 18F 36F 42T
        have hlr : (bl.drop ((takeV bl).2.1.toNat + (takeL (bl.drop (takeV bl).2.1.toNat)).2.1.toNat)).length = bl.length - ((takeV bl).2.1.toNat + (takeL (bl.drop (takeV bl).2.1.toNat)).2.1.toNat) := by simp
        have e : takeX bl = (V0, [], 0, 2) := by rw [takeX, if_neg (by omega), if_neg (by omega), if_pos (by omega)]
        exact ⟨hb, _, by rw [e]; rfl, by rw [e]; exact Own.nil _ _ _ _⟩
      · -- 42 False
        refine op_assign (ev_hit hN rfl) ?_
        refine reg_nil ?_
        refine hK38 _ _ ?_
        refine wp_cond_false (ev_hit hN rfl) ?_
        refine seq_any fun K44 hK44 => ?_
        refine one_reg ?_
        refine op_move (ev_hit hN rfl) ?_
        refine op_len_rd Try.underlying22 (ev_hit hN rfl) hR30 ?_
        refine op_gtr (ev_hit hN rfl) rfl (fun c47 => ?_) (fun c47 => ?_)
        · -- 47 True
          refine op_assign (ev_hit hN rfl) ?_
          refine reg_nil ?_
          refine hK44 _ _ ?_
          refine wp_cond_true (ev_hit hN rfl) ?_
          refine seq_any fun K45 hK45 => ?_
          refine one_reg ?_
          refine op_build (pv := []) (v := (Value.agg #[(Value.int .i64 0), (Value.int .i64 0), (Value.string (bs []))])) trivial (by kernel_rfl) ?_
          have hB5_old := hB5
          refine op_store (vs := [(Value.int .i64 0), (Value.int .i64 0), (Value.string (bs []))]) (cs' := [(Value.int .i64 0), (Value.int .i64 0), (Value.string (bs []))]) size50 (ev_hit hN rfl) (ev_hit hN rfl) rfl rfl rfl hB5 (Nat.le_of_ble_eq_true rfl) rfl ?_
          intro w48 hB5 E49
          have z_w48 := E49.size
          have hv := hv.keep E49 (fun k hk => .inr (by simp at hk; omega))
          have hR23 := hR23.keep E49 (fun k hk => .inr (by simp at hk; omega))
          have hO25 := hO25.keepX hB5_old E49 (by decide)
          have hR30 := hR30.keep E49 (fun k hk => .inr (by simp at hk; omega))
          have hb := below_step1 hb E49 hb.size (by omega)
          refine op_assign rfl ?_
          refine op_assign rfl ?_
          refine op_assign rfl ?_
          refine reg_nil ?_
          refine hK45 _ _ ?_
          refine wp_ret (blk_ret (then_ret ( ?_)))
          refine retN (rs := [.cell 2 50, .tmp 3, .tmp 4, .tmp 5]) (vs := [(Value.agg #[(Value.int .i64 0), (Value.int .i64 0), (Value.string (bs []))]), (Value.slice none 0 0), (Value.int .u64 0), (Value.int .i64 3)]) rfl hd ⟨⟨_, (ev_hit hN rfl), run_loadA (cs := [(Value.int .i64 0), (Value.int .i64 0), (Value.string (bs []))]) agg50 rfl (fun j u hu => by rw [Nat.zero_add]; exact hB5.cell hu)⟩, ⟨(ev_hit hN rfl), ⟨(ev_hit hN rfl), ⟨(ev_hit hN rfl), trivial⟩⟩⟩⟩ rfl ⟨_, rfl, ?_⟩
          -- path 18F 36F 42F 47T
          have hlr : (bl.drop ((takeV bl).2.1.toNat + (takeL (bl.drop (takeV bl).2.1.toNat)).2.1.toNat)).length = bl.length - ((takeV bl).2.1.toNat + (takeL (bl.drop (takeV bl).2.1.toNat)).2.1.toNat) := by simp
          have e : takeX bl = (V0, [], 0, 3) := by rw [takeX, if_neg (by omega), if_neg (by omega), if_neg (by omega), if_pos (by omega)]
          exact ⟨hb, _, by rw [e]; rfl, by rw [e]; exact Own.nil _ _ _ _⟩
        · -- 47 False
          refine op_assign (ev_hit hN rfl) ?_
          refine reg_nil ?_
          refine hK44 _ _ ?_
          refine wp_cond_false (ev_hit hN rfl) ?_
          refine wp_skip ?_
          refine hK31 _ _ ?_
          refine seq_any fun K50 hK50 => ?_
          refine seq_any fun K51 hK51 => ?_
          refine one_reg ?_
          refine op_move (ev_hit hN rfl) ?_
          refine op_len_rd Try.underlying22 (ev_hit hN rfl) hR30 ?_
          refine op_move rfl ?_
          refine reg_nil ?_
          refine hK51 _ _ ?_
          refine wp_block ?_
          have hlr : (bl.drop ((takeV bl).2.1.toNat + (takeL (bl.drop (takeV bl).2.1.toNat)).2.1.toNat)).length = bl.length - ((takeV bl).2.1.toNat + (takeL (bl.drop (takeV bl).2.1.toNat)).2.1.toNat) := by simp
          refine loop_m (fun mz_ a w' => ∃ (i : Nat), mz_ = 8 - i ∧ (a.tmps.getD 0 undef = v) ∧ (a.tmps.getD 2 undef = (ptr b3 0)) ∧ (a.tmps.getD 3 undef = u25) ∧ (a.tmps.getD 5 undef = (Value.int .i64 (takeL (bl.drop (takeV bl).2.1.toNat)).2.2)) ∧ (a.tmps.getD 6 undef = (Value.int .i64 (takeV bl).2.1)) ∧ (a.tmps.getD 7 undef = (Value.int .i64 (takeL (bl.drop (takeV bl).2.1.toNat)).2.1)) ∧ (a.tmps.getD 8 undef = v29) ∧ (a.tmps.getD 11 undef = (Value.tuple #[(Value.agg #[(Value.int .i64 (takeV bl).1.k), (Value.int .i64 (takeV bl).1.n), (Value.string (bs (takeV bl).1.s))]), (Value.int .i64 (takeV bl).2.1), (Value.int .i64 (takeV bl).2.2)])) ∧ (a.tmps.getD 12 undef = v) ∧ (a.tmps.getD 13 undef = (Value.tuple #[(Value.agg #[(Value.int .i64 (takeV bl).1.k), (Value.int .i64 (takeV bl).1.n), (Value.string (bs (takeV bl).1.s))]), (Value.int .i64 (takeV bl).2.1), (Value.int .i64 (takeV bl).2.2)])) ∧ (a.tmps.getD 14 undef = (Value.agg #[(Value.int .i64 (takeV bl).1.k), (Value.int .i64 (takeV bl).1.n), (Value.string (bs (takeV bl).1.s))])) ∧ (a.tmps.getD 15 undef = (Value.int .i64 (takeV bl).2.1)) ∧ (a.tmps.getD 16 undef = (Value.int .i64 (takeV bl).2.2)) ∧ (a.tmps.getD 17 undef = (Value.int .i64 (takeV bl).2.2)) ∧ (a.tmps.getD 18 undef = (Value.bool false)) ∧ (a.tmps.getD 21 undef = (Value.tuple #[u25, (Value.int .i64 (takeL (bl.drop (takeV bl).2.1.toNat)).2.1), (Value.int .i64 (takeL (bl.drop (takeV bl).2.1.toNat)).2.2)])) ∧ (a.tmps.getD 22 undef = v) ∧ (a.tmps.getD 23 undef = (Value.int .i64 (takeV bl).2.1)) ∧ (a.tmps.getD 24 undef = v22) ∧ (a.tmps.getD 25 undef = (Value.tuple #[u25, (Value.int .i64 (takeL (bl.drop (takeV bl).2.1.toNat)).2.1), (Value.int .i64 (takeL (bl.drop (takeV bl).2.1.toNat)).2.2)])) ∧ (a.tmps.getD 26 undef = u25) ∧ (a.tmps.getD 27 undef = (Value.int .i64 (takeL (bl.drop (takeV bl).2.1.toNat)).2.1)) ∧ (a.tmps.getD 28 undef = (Value.int .i64 (takeL (bl.drop (takeV bl).2.1.toNat)).2.2)) ∧ (a.tmps.getD 29 undef = v) ∧ (a.tmps.getD 30 undef = (Value.int .i64 (takeV bl).2.1)) ∧ (a.tmps.getD 31 undef = (Value.int .i64 (takeL (bl.drop (takeV bl).2.1.toNat)).2.1)) ∧ (a.tmps.getD 32 undef = (Value.int .i64 ((takeV bl).2.1 + (takeL (bl.drop (takeV bl).2.1.toNat)).2.1))) ∧ (a.tmps.getD 33 undef = v29) ∧ (a.tmps.getD 34 undef = (Value.bool false)) ∧ (a.tmps.getD 35 undef = (Value.int .i64 (takeL (bl.drop (takeV bl).2.1.toNat)).2.2)) ∧ (a.tmps.getD 36 undef = (Value.bool false)) ∧ (a.tmps.getD 39 undef = (Value.bool false)) ∧ (a.tmps.getD 40 undef = v29) ∧ (a.tmps.getD 41 undef = (Value.int .i64 (((bl.length - ((takeV bl).2.1.toNat + (takeL (bl.drop (takeV bl).2.1.toNat)).2.1.toNat)) : Nat) : Int))) ∧ (a.tmps.getD 42 undef = (Value.bool false)) ∧ (a.tmps.getD 44 undef = (Value.bool false)) ∧ (a.tmps.getD 45 undef = v29) ∧ (a.tmps.getD 46 undef = (Value.int .i64 (((bl.length - ((takeV bl).2.1.toNat + (takeL (bl.drop (takeV bl).2.1.toNat)).2.1.toNat)) : Nat) : Int))) ∧ (a.tmps.getD 47 undef = (Value.bool false)) ∧ (a.tmps.getD 49 undef = v29) ∧ (a.tmps.getD 50 undef = (Value.int .i64 (((bl.length - ((takeV bl).2.1.toNat + (takeL (bl.drop (takeV bl).2.1.toNat)).2.1.toNat)) : Nat) : Int))) ∧ (a.tmps.getD 51 undef = (Value.int .i64 ((i : Nat) : Int))) ∧ (a.tmps.getD 4 undef = (Value.int .u64 ((ofBe ((bl.drop ((takeV bl).2.1.toNat + (takeL (bl.drop (takeV bl).2.1.toNat)).2.1.toNat)).take i) : Nat) : Int))) ∧ (i ≤ 8) ∧ (Below w.heap.size w w') ∧ (RdC w' 0 w.heap.size 1 v bl.length (bl.map u8v)) ∧ (Bx w' b3 50 [(Value.int .i64 (takeV bl).1.k), (Value.int .i64 (takeV bl).1.n), (Value.string (bs (takeV bl).1.s))]) ∧ (RdC w' 0 w.heap.size 1 v22 (bl.length - (takeV bl).2.1.toNat) (((bl.drop (takeV bl).2.1.toNat)).map u8v)) ∧ (Own w' w12.heap.size 46 1 u25 (takeL (bl.drop (takeV bl).2.1.toNat)).1.length ((takeL (bl.drop (takeV bl).2.1.toNat)).1.map u16v)) ∧ (RdC w' 0 w.heap.size 1 v29 (bl.length - ((takeV bl).2.1.toNat + (takeL (bl.drop (takeV bl).2.1.toNat)).2.1.toNat)) (((bl.drop ((takeV bl).2.1.toNat + (takeL (bl.drop (takeV bl).2.1.toNat)).2.1.toNat))).map u8v))) _ hN hd ⟨0, rfl, (sl_base hN rfl s0), (sl_hit hN rfl), (sl_hit hN rfl), (sl_hit hN rfl), (sl_hit hN rfl), (sl_hit hN rfl), (sl_hit hN rfl), (sl_hit hN rfl), (sl_hit hN rfl), (sl_hit hN rfl), (sl_hit hN rfl), (sl_hit hN rfl), (sl_hit hN rfl), (sl_hit hN rfl), (sl_hit hN rfl), (sl_hit hN rfl), (sl_hit hN rfl), (sl_hit hN rfl), (sl_hit hN rfl), (sl_hit hN rfl), (sl_hit hN rfl), (sl_hit hN rfl), (sl_hit hN rfl), (sl_hit hN rfl), (sl_hit hN rfl), (sl_hit hN rfl), (sl_hit hN rfl), (sl_hit hN rfl), (sl_hit hN rfl), (sl_hit hN rfl), (sl_hit hN rfl), (sl_hit hN rfl), (sl_hit hN rfl), (sl_hit hN rfl), (sl_hit hN rfl), (sl_hit hN rfl), (sl_hit hN rfl), (sl_hit hN rfl), (sl_hit hN rfl), (sl_hit hN rfl), (sl_hit hN rfl), (sl_hit hN rfl), (sl_hit hN rfl), Nat.zero_le _, hb, hv, hB5, hR23, hO25, hR30⟩ ?_
          rintro _ a52 w52 hN52 hd52 ⟨i, rfl, s52_0, s52_2, s52_3, s52_5, s52_6, s52_7, s52_8, s52_11, s52_12, s52_13, s52_14, s52_15, s52_16, s52_17, s52_18, s52_21, s52_22, s52_23, s52_24, s52_25, s52_26, s52_27, s52_28, s52_29, s52_30, s52_31, s52_32, s52_33, s52_34, s52_35, s52_36, s52_39, s52_40, s52_41, s52_42, s52_44, s52_45, s52_46, s52_47, s52_49, s52_50, s52_51, s52_4, hi, hb, hv, hB5, hR23, hO25, hR30⟩
          have z_w52 := hb.size
          refine seq_any fun K53 hK53 => ?_
          refine one_reg ?_
          refine op_lss (ev_base hN52 rfl s52_51) (ev_base hN52 rfl s52_50) (fun c52 => ?_) (fun c52 => ?_)
          · -- 52 True
            refine reg_nil ?_
            refine hK53 _ _ ?_
            refine seq_any fun K54 hK54 => ?_
            refine wp_cond_true (ev_hit hN52 rfl) ?_
            refine wp_skip ?_
            refine hK54 _ _ ?_
            refine seq_any fun K55 hK55 => ?_
            refine wp_block ?_
            refine seq_any fun K56 hK56 => ?_
            refine one_reg ?_
            have hlr : (bl.drop ((takeV bl).2.1.toNat + (takeL (bl.drop (takeV bl).2.1.toNat)).2.1.toNat)).length = bl.length - ((takeV bl).2.1.toNat + (takeL (bl.drop (takeV bl).2.1.toNat)).2.1.toNat) := by simp
            have hsm := ofBe_small (l := (bl.drop ((takeV bl).2.1.toNat + (takeL (bl.drop (takeV bl).2.1.toNat)).2.1.toNat)).take i) (by simp; omega)
            refine op_index_rd slt22 (ev_base hN52 rfl s52_49) hR30 (ev_base hN52 rfl s52_51) (by omega) (by omega) ?_
            intro b57 o58 h0b57 h1b57 hc59
            refine op_load1 (v := (Value.int .u8 (((bl.drop ((takeV bl).2.1.toNat + (takeL (bl.drop (takeV bl).2.1.toNat)).2.1.toNat)).getD i 0).toNat : Int))) one5 (ev_hit hN52 rfl) (by have := hc59 0 (Value.int .u8 (((bl.drop ((takeV bl).2.1.toNat + (takeL (bl.drop (takeV bl).2.1.toNat)).2.1.toNat)).getD i 0).toNat : Int)) (by decide) (el_u8 (i := i) (by omega) (by omega)); simpa using this) ?_
            refine op_assign (ev_hit hN52 rfl) ?_
            refine reg_nil ?_
            refine hK56 _ _ ?_
            refine one_reg ?_
            refine op_move (ev_base hN52 rfl s52_4) ?_
            refine op_shl (r := (((ofBe ((bl.drop ((takeV bl).2.1.toNat + (takeL (bl.drop (takeV bl).2.1.toNat)).2.1.toNat)).take i) : Nat) : Int) * 256)) (ev_hit hN52 rfl) rfl (by decide) (shl8 (by omega)) ?_
            refine op_move (ev_hit hN52 rfl) ?_
            refine op_conv (r := (((bl.drop ((takeV bl).2.1.toNat + (takeL (bl.drop (takeV bl).2.1.toNat)).2.1.toNat)).getD i 0).toNat : Int)) (ev_hit hN52 rfl) us5 Try.underlying76 (wrap_u64 (by have := (((bl.drop ((takeV bl).2.1.toNat + (takeL (bl.drop (takeV bl).2.1.toNat)).2.1.toNat)).getD i 0)).toNat_lt; omega)) ?_
            refine op_or (r := (((ofBe ((bl.drop ((takeV bl).2.1.toNat + (takeL (bl.drop (takeV bl).2.1.toNat)).2.1.toNat)).take i) : Nat) : Int) * 256 + (((bl.drop ((takeV bl).2.1.toNat + (takeL (bl.drop (takeV bl).2.1.toNat)).2.1.toNat)).getD i 0).toNat : Int))) (ev_hit hN52 rfl) (ev_hit hN52 rfl) (or_low hsm (UInt8.toNat_lt _)) ?_
            refine op_assign (ev_hit hN52 rfl) ?_
            refine reg_nil ?_
            refine hK55 _ _ ?_
            refine one_reg ?_
            refine op_add (ev_base hN52 rfl s52_51) rfl (add64 (by omega)) ?_
            refine op_move (ev_hit hN52 rfl) ?_
            refine reg_nil ?_
            -- round 18F 36F 42F 47F 52T
            exact loop_next _ hN52 hd52 ⟨i + 1, rfl, (sl_base hN52 rfl s52_0), (sl_base hN52 rfl s52_2), (sl_base hN52 rfl s52_3), (sl_base hN52 rfl s52_5), (sl_base hN52 rfl s52_6), (sl_base hN52 rfl s52_7), (sl_base hN52 rfl s52_8), (sl_base hN52 rfl s52_11), (sl_base hN52 rfl s52_12), (sl_base hN52 rfl s52_13), (sl_base hN52 rfl s52_14), (sl_base hN52 rfl s52_15), (sl_base hN52 rfl s52_16), (sl_base hN52 rfl s52_17), (sl_base hN52 rfl s52_18), (sl_base hN52 rfl s52_21), (sl_base hN52 rfl s52_22), (sl_base hN52 rfl s52_23), (sl_base hN52 rfl s52_24), (sl_base hN52 rfl s52_25), (sl_base hN52 rfl s52_26), (sl_base hN52 rfl s52_27), (sl_base hN52 rfl s52_28), (sl_base hN52 rfl s52_29), (sl_base hN52 rfl s52_30), (sl_base hN52 rfl s52_31), (sl_base hN52 rfl s52_32), (sl_base hN52 rfl s52_33), (sl_base hN52 rfl s52_34), (sl_base hN52 rfl s52_35), (sl_base hN52 rfl s52_36), (sl_base hN52 rfl s52_39), (sl_base hN52 rfl s52_40), (sl_base hN52 rfl s52_41), (sl_base hN52 rfl s52_42), (sl_base hN52 rfl s52_44), (sl_base hN52 rfl s52_45), (sl_base hN52 rfl s52_46), (sl_base hN52 rfl s52_47), (sl_base hN52 rfl s52_49), (sl_base hN52 rfl s52_50), (sl_hit hN52 rfl).trans (congrArg (Value.int .i64) (by omega)), (sl_hit hN52 rfl).trans (congrArg (Value.int .u64) (by rw [take_snoc (l := (bl.drop ((takeV bl).2.1.toNat + (takeL (bl.drop (takeV bl).2.1.toNat)).2.1.toNat))) (i := i) (by omega), ofBe_snoc]; simp)), (by omega), hb, hv, hB5, hR23, hO25, hR30⟩ (by omega)
          · -- 52 False
            refine reg_nil ?_
            refine hK53 _ _ ?_
            refine seq_any fun K60 hK60 => ?_
            refine wp_cond_false (ev_hit hN52 rfl) ?_
            refine wp_exit (then_exit (then_exit (blk_hit ?_)))
            refine hK50 _ _ ?_
            refine seq_any fun K61 hK61 => ?_
            refine one_reg ?_
            refine op_loadA (cs := [(Value.int .i64 (takeV bl).1.k), (Value.int .i64 (takeV bl).1.n), (Value.string (bs (takeV bl).1.s))]) agg50 rfl (ev_base hN52 rfl s52_2) (fun j u hu => by rw [Nat.zero_add]; exact hB5.cell hu) ?_
            refine op_move (ev_base hN52 rfl s52_3) ?_
            refine op_move (ev_base hN52 rfl s52_4) ?_
            have hB5_old := hB5
            refine op_store (vs := [(Value.int .i64 (takeV bl).1.k), (Value.int .i64 (takeV bl).1.n), (Value.string (bs (takeV bl).1.s))]) (cs' := [(Value.int .i64 (takeV bl).1.k), (Value.int .i64 (takeV bl).1.n), (Value.string (bs (takeV bl).1.s))]) size50 (ev_base hN52 rfl s52_2) (ev_hit hN52 rfl) rfl rfl rfl hB5 (Nat.le_of_ble_eq_true rfl) rfl ?_
            intro w64 hB5 E65
            have z_w64 := E65.size
            have hv := hv.keep E65 (fun k hk => .inr (by simp at hk; omega))
            have hR23 := hR23.keep E65 (fun k hk => .inr (by simp at hk; omega))
            have hO25 := hO25.keepX hB5_old E65 (by decide)
            have hR30 := hR30.keep E65 (fun k hk => .inr (by simp at hk; omega))
            have hb := below_step1 hb E65 hb.size (by omega)
            refine op_assign (ev_hit hN52 rfl) ?_
            refine op_assign (ev_hit hN52 rfl) ?_
            refine op_assign rfl ?_
            refine reg_nil ?_
            refine hK61 _ _ ?_
            refine wp_ret ?_
            refine retN (rs := [.cell 2 50, .tmp 3, .tmp 4, .tmp 5]) (vs := [(Value.agg #[(Value.int .i64 (takeV bl).1.k), (Value.int .i64 (takeV bl).1.n), (Value.string (bs (takeV bl).1.s))]), u25, (Value.int .u64 ((ofBe ((bl.drop ((takeV bl).2.1.toNat + (takeL (bl.drop (takeV bl).2.1.toNat)).2.1.toNat)).take i) : Nat) : Int)), (Value.int .i64 0)]) rfl hd52 ⟨⟨_, (ev_base hN52 rfl s52_2), run_loadA (cs := [(Value.int .i64 (takeV bl).1.k), (Value.int .i64 (takeV bl).1.n), (Value.string (bs (takeV bl).1.s))]) agg50 rfl (fun j u hu => by rw [Nat.zero_add]; exact hB5.cell hu)⟩, ⟨(ev_hit hN52 rfl), ⟨(ev_hit hN52 rfl), ⟨(ev_hit hN52 rfl), trivial⟩⟩⟩⟩ rfl ⟨_, rfl, ?_⟩
            -- path 18F 36F 42F 47F 52F
            have hlr : (bl.drop ((takeV bl).2.1.toNat + (takeL (bl.drop (takeV bl).2.1.toNat)).2.1.toNat)).length = bl.length - ((takeV bl).2.1.toNat + (takeL (bl.drop (takeV bl).2.1.toNat)).2.1.toNat) := by simp
            have h8 : i = 8 := by omega
            have e8 : (bl.drop ((takeV bl).2.1.toNat + (takeL (bl.drop (takeV bl).2.1.toNat)).2.1.toNat)).take i = (bl.drop ((takeV bl).2.1.toNat + (takeL (bl.drop (takeV bl).2.1.toNat)).2.1.toNat)) := List.take_of_length_le (by omega)
            have e : takeX bl = ((takeV bl).1, (takeL (bl.drop (takeV bl).2.1.toNat)).1, ofBe (bl.drop ((takeV bl).2.1.toNat + (takeL (bl.drop (takeV bl).2.1.toNat)).2.1.toNat)), 0) := by rw [takeX, if_neg (by omega), if_neg (by omega), if_neg (by omega), if_neg (by omega)]
            exact ⟨hb, _, by rw [e, e8]; rfl, by rw [e]; exact hO25.mono (by omega)⟩

theorem RXTake_ret (bl : List UInt8) (v : Value) (w : World) (hl : bl.length ≤ 1000000000000) (hv : RdC w 0 w.heap.size 1 v bl.length (bl.map u8v)) : Ret Try.prog 56 #[v] w (fun v' w' => Below w.heap.size w w' ∧ ∃ u, v' = .tuple #[.agg #[.int .i64 (takeX bl).1.k, .int .i64 (takeX bl).1.n, .string (bs (takeX bl).1.s)], u, .int .u64 ((takeX bl).2.2.1 : Int), .int .i64 (takeX bl).2.2.2] ∧ Own w' w.heap.size 46 1 u (takeX bl).2.1.length ((takeX bl).2.1.map u16v)) := by
  have htl := takeV_len bl
  have hb := Below.refl w.heap.size w
  refine enter (N := 63) Try.func56 rfl rfl (by simp) fun a0 hN hd hA => ?_
  have s0 : a0.tmps.getD 0 undef = v := hA 0 (by simp)
  clear hA
  refine seq_any fun K66 hK66 => ?_
  refine one_reg ?_
  refine op_alloc (cs := [(Value.int .i64 0), (Value.int .i64 0), (Value.string (bs []))]) zero50 rfl ?_
  intro w67 b68 lo_b68 hi_b68 hB70 E69
  have z_w67 := E69.size
  have hv := hv.keep0 E69
  have hb := below_step0 hb E69 hb.size
  refine op_assign rfl ?_
  refine op_assign rfl ?_
  refine op_assign rfl ?_
  refine reg_nil ?_
  refine hK66 _ _ ?_
  refine seq_any fun K71 hK71 => ?_
  refine one_reg ?_
  refine op_move (ev_base hN rfl s0) ?_
  have hq72 : RdC w67 0 w67.heap.size 1 v bl.length (bl.map u8v) := by have hh : RdC w67 0 w67.heap.size 1 _ _ _ := (hv.mono (L' := 0) (B' := w67.heap.size) (Nat.zero_le _) (by omega)); first | simpa using hh | simpa [Nat.add_comm, Nat.add_left_comm, Nat.add_assoc] using hh | exact hh.cast (by simp; try omega) (by simp)
  refine op_fn (vs := [v]) ok41 ⟨(ev_hit hN rfl), trivial⟩ (TakeKey_ret bl v _ (by first | assumption | omega | (simp only [List.length_append, List.length_cons, List.length_nil, List.length_drop, List.length_take]; omega) | (dsimp only; omega) | decide | (simp [keyV, be8_len]; done)) hq72) ?_
  rintro _ w73 ⟨E74, rfl⟩
  have E74 := grown_of_below E74
  have z_w73 := E74.size
  have hv := hv.keep0 E74
  have hB70 := hB70.keep0 E74
  have hb := below_step0 hb E74 hb.size
  refine op_move (ev_hit hN rfl) ?_
  refine op_extract (ev_hit hN rfl) rfl ?_
  refine op_extract (ev_hit hN rfl) rfl ?_
  refine op_extract (ev_hit hN rfl) rfl ?_
  refine op_alloc (cs := [(Value.int .i64 0), (Value.int .i64 0), (Value.string (bs []))]) zero50 rfl ?_
  intro w75 b76 lo_b76 hi_b76 hB78 E77
  have z_w75 := E77.size
  have hv := hv.keep0 E77
  have hB70 := hB70.keep0 E77
  have hb := below_step0 hb E77 hb.size
  have hB78_old := hB78
  refine op_store (vs := [(Value.int .i64 (takeV bl).1.k), (Value.int .i64 (takeV bl).1.n), (Value.string (bs (takeV bl).1.s))]) (cs' := [(Value.int .i64 (takeV bl).1.k), (Value.int .i64 (takeV bl).1.n), (Value.string (bs (takeV bl).1.s))]) size50 (ev_hit hN rfl) (ev_hit hN rfl) rfl rfl rfl hB78 (Nat.le_of_ble_eq_true rfl) rfl ?_
  intro w81 hB78 E82
  have z_w81 := E82.size
  have hv := hv.keep E82 (fun k hk => .inr (by simp at hk; omega))
  have hB70 := hB70.keep E82 (by simp; omega)
  have hb := below_step1 hb E82 hb.size (by omega)
  refine op_assign (ev_hit hN rfl) ?_
  refine op_assign (ev_hit hN rfl) ?_
  refine reg_nil ?_
  refine hK71 _ _ ?_
  refine seq_any fun K83 hK83 => ?_
  refine seq_any fun K84 hK84 => ?_
  refine one_reg ?_
  refine op_move (ev_hit hN rfl) ?_
  refine op_neq (ev_hit hN rfl) rfl (fun c20 => ?_) (fun c20 => ?_)
  · -- 20 True
    refine reg_nil ?_
    refine hK84 _ _ ?_
    refine wp_cond_true (ev_hit hN rfl) ?_
    refine seq_any fun K85 hK85 => ?_
    refine one_reg ?_
    refine op_build (pv := []) (v := (Value.agg #[(Value.int .i64 0), (Value.int .i64 0), (Value.string (bs []))])) trivial (by kernel_rfl) ?_
    refine op_move (ev_hit hN rfl) ?_
    have hB70_old := hB70
    refine op_store (vs := [(Value.int .i64 0), (Value.int .i64 0), (Value.string (bs []))]) (cs' := [(Value.int .i64 0), (Value.int .i64 0), (Value.string (bs []))]) size50 (ev_hit hN rfl) (ev_hit hN rfl) rfl rfl rfl hB70 (Nat.le_of_ble_eq_true rfl) rfl ?_
    intro w88 hB70 E89
    have z_w88 := E89.size
    have hv := hv.keep E89 (fun k hk => .inr (by simp at hk; omega))
    have hB78 := hB78.keep E89 (by simp; omega)
    have hb := below_step1 hb E89 hb.size (by omega)
    refine op_assign rfl ?_
    refine op_assign rfl ?_
    refine op_assign (ev_hit hN rfl) ?_
    refine reg_nil ?_
    refine hK85 _ _ ?_
    refine wp_ret (then_ret ( ?_))
    refine retN (rs := [.cell 2 50, .tmp 3, .tmp 4, .tmp 5]) (vs := [(Value.agg #[(Value.int .i64 0), (Value.int .i64 0), (Value.string (bs []))]), (Value.slice none 0 0), (Value.int .u64 0), (Value.int .i64 (takeV bl).2.2)]) rfl hd ⟨⟨_, (ev_hit hN rfl), run_loadA (cs := [(Value.int .i64 0), (Value.int .i64 0), (Value.string (bs []))]) agg50 rfl (fun j u hu => by rw [Nat.zero_add]; exact hB70.cell hu)⟩, ⟨(ev_hit hN rfl), ⟨(ev_hit hN rfl), ⟨(ev_hit hN rfl), trivial⟩⟩⟩⟩ rfl ⟨_, rfl, ?_⟩
    -- path 20T
    have e : takeX bl = (V0, [], 0, (takeV bl).2.2) := by rw [takeX, if_pos (by omega)]
    exact ⟨hb, _, by rw [e]; rfl, by rw [e]; exact Own.nil _ _ _ _⟩
  · -- 20 False
    refine reg_nil ?_
    refine hK84 _ _ ?_
    refine wp_cond_false (ev_hit hN rfl) ?_
    refine wp_skip ?_
    refine hK83 _ _ ?_
    refine seq_any fun K90 hK90 => ?_
    refine one_reg ?_
    refine op_move (ev_base hN rfl s0) ?_
    refine op_move (ev_hit hN rfl) ?_
    refine op_slice_rd (lo := (takeV bl).2.1.toNat) (hi := bl.length) slt22 (ev_hit hN rfl) hv (.inr ⟨_, _, rfl, (ev_hit hN rfl).trans (congrArg (Value.int _) (by omega))⟩) (.inl ⟨rfl, rfl⟩) (by omega) (by omega) ?_
    intro v91 hR92
    have hR92 : RdC w81 0 w.heap.size 1 v91 (bl.length - (takeV bl).2.1.toNat) (((bl.drop (takeV bl).2.1.toNat)).map u8v) := by simpa [List.map_drop, List.take_of_length_le] using hR92
    have hq93 : RdC w81 0 w81.heap.size 1 v91 (bl.drop (takeV bl).2.1.toNat).length ((bl.drop (takeV bl).2.1.toNat).map u8v) := by have hh : RdC w81 0 w81.heap.size 1 _ _ _ := (hR92.mono (L' := 0) (B' := w81.heap.size) (Nat.zero_le _) (by omega)); first | simpa using hh | simpa [Nat.add_comm, Nat.add_left_comm, Nat.add_assoc] using hh | exact hh.cast (by simp; try omega) (by simp)
    refine op_fn (vs := [v91]) ok75 ⟨(ev_hit hN rfl), trivial⟩ (refTake_ret (bl.drop (takeV bl).2.1.toNat) v91 _ (by first | assumption | omega | (simp only [List.length_append, List.length_cons, List.length_nil, List.length_drop, List.length_take]; omega) | (dsimp only; omega) | decide | (simp [keyV, be8_len]; done)) hq93) ?_
    rintro _ w95 ⟨E96, u94, rfl, hO94⟩
    have E96 := grown_of_below E96
    have z_w95 := E96.size
    have hv := hv.keep0 E96
    have hB70 := hB70.keep0 E96
    have hB78 := hB78.keep0 E96
    have hR92 := hR92.keep0 E96
    have hb := below_step0 hb E96 hb.size
    have hO94 := hO94.mono (base' := w81.heap.size) (by omega)
    refine op_move (ev_hit hN rfl) ?_
    refine op_extract (ev_hit hN rfl) rfl ?_
    refine op_extract (ev_hit hN rfl) rfl ?_
    refine op_extract (ev_hit hN rfl) rfl ?_
    refine op_assign (ev_hit hN rfl) ?_
    refine op_assign (ev_hit hN rfl) ?_
    refine op_assign (ev_hit hN rfl) ?_
    refine reg_nil ?_
    refine hK90 _ _ ?_
    refine seq_any fun K97 hK97 => ?_
    refine seq_any fun K98 hK98 => ?_
    refine one_reg ?_
    have htl2 := takeL_len (bl.drop (takeV bl).2.1.toNat)
    have hdl : (bl.drop (takeV bl).2.1.toNat).length = bl.length - (takeV bl).2.1.toNat := by simp
    refine op_move (ev_hit hN rfl) ?_
    refine op_neq (ev_hit hN rfl) rfl (fun c32 => ?_) (fun c32 => ?_)
    · -- 32 True
      refine reg_nil ?_
      refine hK98 _ _ ?_
      refine wp_cond_true (ev_hit hN rfl) ?_
      refine seq_any fun K99 hK99 => ?_
      refine one_reg ?_
      refine op_build (pv := []) (v := (Value.agg #[(Value.int .i64 0), (Value.int .i64 0), (Value.string (bs []))])) trivial (by kernel_rfl) ?_
      refine op_move (ev_hit hN rfl) ?_
      have hB70_old := hB70
      refine op_store (vs := [(Value.int .i64 0), (Value.int .i64 0), (Value.string (bs []))]) (cs' := [(Value.int .i64 0), (Value.int .i64 0), (Value.string (bs []))]) size50 (ev_hit hN rfl) (ev_hit hN rfl) rfl rfl rfl hB70 (Nat.le_of_ble_eq_true rfl) rfl ?_
      intro w102 hB70 E103
      have z_w102 := E103.size
      have hv := hv.keep E103 (fun k hk => .inr (by simp at hk; omega))
      have hB78 := hB78.keep E103 (by simp; omega)
      have hR92 := hR92.keep E103 (fun k hk => .inr (by simp at hk; omega))
      have hO94 := hO94.keepX hB70_old E103 (by decide)
      have hb := below_step1 hb E103 hb.size (by omega)
      refine op_assign rfl ?_
      refine op_assign rfl ?_
      refine op_assign (ev_hit hN rfl) ?_
      refine reg_nil ?_
      refine hK99 _ _ ?_
      refine wp_ret (then_ret ( ?_))
      refine retN (rs := [.cell 2 50, .tmp 3, .tmp 4, .tmp 5]) (vs := [(Value.agg #[(Value.int .i64 0), (Value.int .i64 0), (Value.string (bs []))]), (Value.slice none 0 0), (Value.int .u64 0), (Value.int .i64 (takeL (bl.drop (takeV bl).2.1.toNat)).2.2)]) rfl hd ⟨⟨_, (ev_hit hN rfl), run_loadA (cs := [(Value.int .i64 0), (Value.int .i64 0), (Value.string (bs []))]) agg50 rfl (fun j u hu => by rw [Nat.zero_add]; exact hB70.cell hu)⟩, ⟨(ev_hit hN rfl), ⟨(ev_hit hN rfl), ⟨(ev_hit hN rfl), trivial⟩⟩⟩⟩ rfl ⟨_, rfl, ?_⟩
      -- path 20F 32T
      have e : takeX bl = (V0, [], 0, (takeL (bl.drop (takeV bl).2.1.toNat)).2.2) := by rw [takeX, if_neg (by omega), if_pos (by omega)]
      exact ⟨hb, _, by rw [e]; rfl, by rw [e]; exact Own.nil _ _ _ _⟩
    · -- 32 False
      refine reg_nil ?_
      refine hK98 _ _ ?_
      refine wp_cond_false (ev_hit hN rfl) ?_
      refine wp_skip ?_
      refine hK97 _ _ ?_
      refine seq_any fun K104 hK104 => ?_
      refine one_reg ?_
      refine op_move (ev_base hN rfl s0) ?_
      refine op_move (ev_hit hN rfl) ?_
      refine op_move (ev_hit hN rfl) ?_
      refine op_add (ev_hit hN rfl) (ev_hit hN rfl) (add64 (by omega)) ?_
      refine op_slice_rd (lo := ((takeV bl).2.1.toNat + (takeL (bl.drop (takeV bl).2.1.toNat)).2.1.toNat)) (hi := bl.length) slt22 (ev_hit hN rfl) hv (.inr ⟨_, _, rfl, (ev_hit hN rfl).trans (congrArg (Value.int _) (by omega))⟩) (.inl ⟨rfl, rfl⟩) (by simp at htl2; omega) (by omega) ?_
      intro v105 hR106
      have hR106 : RdC w95 0 w.heap.size 1 v105 (bl.length - ((takeV bl).2.1.toNat + (takeL (bl.drop (takeV bl).2.1.toNat)).2.1.toNat)) (((bl.drop ((takeV bl).2.1.toNat + (takeL (bl.drop (takeV bl).2.1.toNat)).2.1.toNat))).map u8v) := by simpa [List.map_drop, List.take_of_length_le] using hR106
      refine op_assign (ev_hit hN rfl) ?_
      refine reg_nil ?_
      refine hK104 _ _ ?_
      refine seq_any fun K107 hK107 => ?_
      refine seq_any fun K108 hK108 => ?_
      refine one_reg ?_
      refine op_move (ev_hit hN rfl) ?_
      refine op_len_rd Try.underlying22 (ev_hit hN rfl) hR106 ?_
      refine op_lss (ev_hit hN rfl) rfl (fun c42 => ?_) (fun c42 => ?_)
      · -- 42 True
        refine reg_nil ?_
        refine hK108 _ _ ?_
        refine wp_cond_true (ev_hit hN rfl) ?_
        refine seq_any fun K109 hK109 => ?_
        refine one_reg ?_
        refine op_build (pv := []) (v := (Value.agg #[(Value.int .i64 0), (Value.int .i64 0), (Value.string (bs []))])) trivial (by kernel_rfl) ?_
        have hB70_old := hB70
        refine op_store (vs := [(Value.int .i64 0), (Value.int .i64 0), (Value.string (bs []))]) (cs' := [(Value.int .i64 0), (Value.int .i64 0), (Value.string (bs []))]) size50 (ev_hit hN rfl) (ev_hit hN rfl) rfl rfl rfl hB70 (Nat.le_of_ble_eq_true rfl) rfl ?_
        intro w112 hB70 E113
        have z_w112 := E113.size
        have hv := hv.keep E113 (fun k hk => .inr (by simp at hk; omega))
        have hB78 := hB78.keep E113 (by simp; omega)
        have hR92 := hR92.keep E113 (fun k hk => .inr (by simp at hk; omega))
        have hO94 := hO94.keepX hB70_old E113 (by decide)
        have hR106 := hR106.keep E113 (fun k hk => .inr (by simp at hk; omega))
        have hb := below_step1 hb E113 hb.size (by omega)
        refine op_assign rfl ?_
        refine op_assign rfl ?_
        refine op_assign rfl ?_
        refine reg_nil ?_
        refine hK109 _ _ ?_
        refine wp_ret (then_ret ( ?_))
        refine retN (rs := [.cell 2 50, .tmp 3, .tmp 4, .tmp 5]) (vs := [(Value.agg #[(Value.int .i64 0), (Value.int .i64 0), (Value.string (bs []))]), (Value.slice none 0 0), (Value.int .u64 0), (Value.int .i64 2)]) rfl hd ⟨⟨_, (ev_hit hN rfl), run_loadA (cs := [(Value.int .i64 0), (Value.int .i64 0), (Value.string (bs []))]) agg50 rfl (fun j u hu => by rw [Nat.zero_add]; exact hB70.cell hu)⟩, ⟨(ev_hit hN rfl), ⟨(ev_hit hN rfl), ⟨(ev_hit hN rfl), trivial⟩⟩⟩⟩ rfl ⟨_, rfl, ?_⟩
        -- path 20F 32F 42T
        have hlr : (bl.drop ((takeV bl).2.1.toNat + (takeL (bl.drop (takeV bl).2.1.toNat)).2.1.toNat)).length = bl.length - ((takeV bl).2.1.toNat + (takeL (bl.drop (takeV bl).2.1.toNat)).2.1.toNat) := by simp
        have e : takeX bl = (V0, [], 0, 2) := by rw [takeX, if_neg (by omega), if_neg (by omega), if_pos (by omega)]
        exact ⟨hb, _, by rw [e]; rfl, by rw [e]; exact Own.nil _ _ _ _⟩
      · -- 42 False
        refine reg_nil ?_
        refine hK108 _ _ ?_
        refine wp_cond_false (ev_hit hN rfl) ?_
        refine wp_skip ?_
        refine hK107 _ _ ?_
        refine seq_any fun K114 hK114 => ?_
        refine seq_any fun K115 hK115 => ?_
        refine one_reg ?_
        refine op_move (ev_hit hN rfl) ?_
        refine op_len_rd Try.underlying22 (ev_hit hN rfl) hR106 ?_
        refine op_gtr (ev_hit hN rfl) rfl (fun c46 => ?_) (fun c46 => ?_)
        · -- 46 True
          refine reg_nil ?_
          refine hK115 _ _ ?_
          refine wp_cond_true (ev_hit hN rfl) ?_
          refine seq_any fun K116 hK116 => ?_
          refine one_reg ?_
          refine op_build (pv := []) (v := (Value.agg #[(Value.int .i64 0), (Value.int .i64 0), (Value.string (bs []))])) trivial (by kernel_rfl) ?_
          have hB70_old := hB70
          refine op_store (vs := [(Value.int .i64 0), (Value.int .i64 0), (Value.string (bs []))]) (cs' := [(Value.int .i64 0), (Value.int .i64 0), (Value.string (bs []))]) size50 (ev_hit hN rfl) (ev_hit hN rfl) rfl rfl rfl hB70 (Nat.le_of_ble_eq_true rfl) rfl ?_
          intro w119 hB70 E120
          have z_w119 := E120.size
          have hv := hv.keep E120 (fun k hk => .inr (by simp at hk; omega))
          have hB78 := hB78.keep E120 (by simp; omega)
          have hR92 := hR92.keep E120 (fun k hk => .inr (by simp at hk; omega))
          have hO94 := hO94.keepX hB70_old E120 (by decide)
          have hR106 := hR106.keep E120 (fun k hk => .inr (by simp at hk; omega))
          have hb := below_step1 hb E120 hb.size (by omega)
          refine op_assign rfl ?_
          refine op_assign rfl ?_
          refine op_assign rfl ?_
          refine reg_nil ?_
          refine hK116 _ _ ?_
          refine wp_ret (then_ret ( ?_))
          refine retN (rs := [.cell 2 50, .tmp 3, .tmp 4, .tmp 5]) (vs := [(Value.agg #[(Value.int .i64 0), (Value.int .i64 0), (Value.string (bs []))]), (Value.slice none 0 0), (Value.int .u64 0), (Value.int .i64 3)]) rfl hd ⟨⟨_, (ev_hit hN rfl), run_loadA (cs := [(Value.int .i64 0), (Value.int .i64 0), (Value.string (bs []))]) agg50 rfl (fun j u hu => by rw [Nat.zero_add]; exact hB70.cell hu)⟩, ⟨(ev_hit hN rfl), ⟨(ev_hit hN rfl), ⟨(ev_hit hN rfl), trivial⟩⟩⟩⟩ rfl ⟨_, rfl, ?_⟩
          -- path 20F 32F 42F 46T
          have hlr : (bl.drop ((takeV bl).2.1.toNat + (takeL (bl.drop (takeV bl).2.1.toNat)).2.1.toNat)).length = bl.length - ((takeV bl).2.1.toNat + (takeL (bl.drop (takeV bl).2.1.toNat)).2.1.toNat) := by simp
          have e : takeX bl = (V0, [], 0, 3) := by rw [takeX, if_neg (by omega), if_neg (by omega), if_neg (by omega), if_pos (by omega)]
          exact ⟨hb, _, by rw [e]; rfl, by rw [e]; exact Own.nil _ _ _ _⟩
        · -- 46 False
          refine reg_nil ?_
          refine hK115 _ _ ?_
          refine wp_cond_false (ev_hit hN rfl) ?_
          refine wp_skip ?_
          refine hK114 _ _ ?_
          refine seq_any fun K121 hK121 => ?_
          refine one_reg ?_
          refine op_assign rfl ?_
          refine reg_nil ?_
          refine hK121 _ _ ?_
          refine seq_any fun K122 hK122 => ?_
          refine seq_any fun K123 hK123 => ?_
          refine one_reg ?_
          refine op_assign rfl ?_
          refine reg_nil ?_
          refine hK123 _ _ ?_
          refine wp_block ?_
          have hlr : (bl.drop ((takeV bl).2.1.toNat + (takeL (bl.drop (takeV bl).2.1.toNat)).2.1.toNat)).length = bl.length - ((takeV bl).2.1.toNat + (takeL (bl.drop (takeV bl).2.1.toNat)).2.1.toNat) := by simp
          refine loop_m (fun mz_ a w' => ∃ (i : Nat), mz_ = 8 - i ∧ (a.tmps.getD 0 undef = v105) ∧ (a.tmps.getD 2 undef = (ptr b68 0)) ∧ (a.tmps.getD 3 undef = (Value.slice none 0 0)) ∧ (a.tmps.getD 4 undef = (Value.int .u64 0)) ∧ (a.tmps.getD 5 undef = (Value.int .i64 0)) ∧ (a.tmps.getD 6 undef = (ptr b76 0)) ∧ (a.tmps.getD 7 undef = (Value.int .i64 (takeV bl).2.1)) ∧ (a.tmps.getD 8 undef = (Value.int .i64 (takeL (bl.drop (takeV bl).2.1.toNat)).2.2)) ∧ (a.tmps.getD 9 undef = u94) ∧ (a.tmps.getD 10 undef = (Value.int .i64 (takeL (bl.drop (takeV bl).2.1.toNat)).2.1)) ∧ (a.tmps.getD 13 undef = (Value.tuple #[(Value.agg #[(Value.int .i64 (takeV bl).1.k), (Value.int .i64 (takeV bl).1.n), (Value.string (bs (takeV bl).1.s))]), (Value.int .i64 (takeV bl).2.1), (Value.int .i64 (takeV bl).2.2)])) ∧ (a.tmps.getD 14 undef = v) ∧ (a.tmps.getD 15 undef = (Value.tuple #[(Value.agg #[(Value.int .i64 (takeV bl).1.k), (Value.int .i64 (takeV bl).1.n), (Value.string (bs (takeV bl).1.s))]), (Value.int .i64 (takeV bl).2.1), (Value.int .i64 (takeV bl).2.2)])) ∧ (a.tmps.getD 16 undef = (Value.agg #[(Value.int .i64 (takeV bl).1.k), (Value.int .i64 (takeV bl).1.n), (Value.string (bs (takeV bl).1.s))])) ∧ (a.tmps.getD 17 undef = (Value.int .i64 (takeV bl).2.1)) ∧ (a.tmps.getD 18 undef = (Value.int .i64 (takeV bl).2.2)) ∧ (a.tmps.getD 19 undef = (Value.int .i64 (takeV bl).2.2)) ∧ (a.tmps.getD 20 undef = (Value.bool false)) ∧ (a.tmps.getD 23 undef = (Value.tuple #[u94, (Value.int .i64 (takeL (bl.drop (takeV bl).2.1.toNat)).2.1), (Value.int .i64 (takeL (bl.drop (takeV bl).2.1.toNat)).2.2)])) ∧ (a.tmps.getD 24 undef = v) ∧ (a.tmps.getD 25 undef = (Value.int .i64 (takeV bl).2.1)) ∧ (a.tmps.getD 26 undef = v91) ∧ (a.tmps.getD 27 undef = (Value.tuple #[u94, (Value.int .i64 (takeL (bl.drop (takeV bl).2.1.toNat)).2.1), (Value.int .i64 (takeL (bl.drop (takeV bl).2.1.toNat)).2.2)])) ∧ (a.tmps.getD 28 undef = u94) ∧ (a.tmps.getD 29 undef = (Value.int .i64 (takeL (bl.drop (takeV bl).2.1.toNat)).2.1)) ∧ (a.tmps.getD 30 undef = (Value.int .i64 (takeL (bl.drop (takeV bl).2.1.toNat)).2.2)) ∧ (a.tmps.getD 31 undef = (Value.int .i64 (takeL (bl.drop (takeV bl).2.1.toNat)).2.2)) ∧ (a.tmps.getD 32 undef = (Value.bool false)) ∧ (a.tmps.getD 35 undef = v) ∧ (a.tmps.getD 36 undef = (Value.int .i64 (takeV bl).2.1)) ∧ (a.tmps.getD 37 undef = (Value.int .i64 (takeL (bl.drop (takeV bl).2.1.toNat)).2.1)) ∧ (a.tmps.getD 38 undef = (Value.int .i64 ((takeV bl).2.1 + (takeL (bl.drop (takeV bl).2.1.toNat)).2.1))) ∧ (a.tmps.getD 39 undef = v105) ∧ (a.tmps.getD 40 undef = v105) ∧ (a.tmps.getD 41 undef = (Value.int .i64 (((bl.length - ((takeV bl).2.1.toNat + (takeL (bl.drop (takeV bl).2.1.toNat)).2.1.toNat)) : Nat) : Int))) ∧ (a.tmps.getD 42 undef = (Value.bool false)) ∧ (a.tmps.getD 44 undef = v105) ∧ (a.tmps.getD 45 undef = (Value.int .i64 (((bl.length - ((takeV bl).2.1.toNat + (takeL (bl.drop (takeV bl).2.1.toNat)).2.1.toNat)) : Nat) : Int))) ∧ (a.tmps.getD 46 undef = (Value.bool false)) ∧ (a.tmps.getD 12 undef = (Value.int .i64 ((i : Nat) : Int))) ∧ (a.tmps.getD 11 undef = (Value.int .u64 ((ofBe ((bl.drop ((takeV bl).2.1.toNat + (takeL (bl.drop (takeV bl).2.1.toNat)).2.1.toNat)).take i) : Nat) : Int))) ∧ (i ≤ 8) ∧ (Below w.heap.size w w') ∧ (RdC w' 0 w.heap.size 1 v bl.length (bl.map u8v)) ∧ (Bx w' b68 50 [(Value.int .i64 0), (Value.int .i64 0), (Value.string (bs []))]) ∧ (Bx w' b76 50 [(Value.int .i64 (takeV bl).1.k), (Value.int .i64 (takeV bl).1.n), (Value.string (bs (takeV bl).1.s))]) ∧ (RdC w' 0 w.heap.size 1 v91 (bl.length - (takeV bl).2.1.toNat) (((bl.drop (takeV bl).2.1.toNat)).map u8v)) ∧ (Own w' w81.heap.size 46 1 u94 (takeL (bl.drop (takeV bl).2.1.toNat)).1.length ((takeL (bl.drop (takeV bl).2.1.toNat)).1.map u16v)) ∧ (RdC w' 0 w.heap.size 1 v105 (bl.length - ((takeV bl).2.1.toNat + (takeL (bl.drop (takeV bl).2.1.toNat)).2.1.toNat)) (((bl.drop ((takeV bl).2.1.toNat + (takeL (bl.drop (takeV bl).2.1.toNat)).2.1.toNat))).map u8v))) _ hN hd ⟨0, rfl, (sl_hit hN rfl), (sl_hit hN rfl), (sl_hit hN rfl), (sl_hit hN rfl), (sl_hit hN rfl), (sl_hit hN rfl), (sl_hit hN rfl), (sl_hit hN rfl), (sl_hit hN rfl), (sl_hit hN rfl), (sl_hit hN rfl), (sl_hit hN rfl), (sl_hit hN rfl), (sl_hit hN rfl), (sl_hit hN rfl), (sl_hit hN rfl), (sl_hit hN rfl), (sl_hit hN rfl), (sl_hit hN rfl), (sl_hit hN rfl), (sl_hit hN rfl), (sl_hit hN rfl), (sl_hit hN rfl), (sl_hit hN rfl), (sl_hit hN rfl), (sl_hit hN rfl), (sl_hit hN rfl), (sl_hit hN rfl), (sl_hit hN rfl), (sl_hit hN rfl), (sl_hit hN rfl), (sl_hit hN rfl), (sl_hit hN rfl), (sl_hit hN rfl), (sl_hit hN rfl), (sl_hit hN rfl), (sl_hit hN rfl), (sl_hit hN rfl), (sl_hit hN rfl), (sl_hit hN rfl), (sl_hit hN rfl), Nat.zero_le _, hb, hv, hB70, hB78, hR92, hO94, hR106⟩ ?_
          rintro _ a124 w124 hN124 hd124 ⟨i, rfl, s124_0, s124_2, s124_3, s124_4, s124_5, s124_6, s124_7, s124_8, s124_9, s124_10, s124_13, s124_14, s124_15, s124_16, s124_17, s124_18, s124_19, s124_20, s124_23, s124_24, s124_25, s124_26, s124_27, s124_28, s124_29, s124_30, s124_31, s124_32, s124_35, s124_36, s124_37, s124_38, s124_39, s124_40, s124_41, s124_42, s124_44, s124_45, s124_46, s124_12, s124_11, hi, hb, hv, hB70, hB78, hR92, hO94, hR106⟩
          have z_w124 := hb.size
          refine seq_any fun K125 hK125 => ?_
          refine seq_any fun K126 hK126 => ?_
          refine one_reg ?_
          refine op_move (ev_base hN124 rfl s124_12) ?_
          refine op_lss (ev_hit hN124 rfl) rfl (fun c49 => ?_) (fun c49 => ?_)
          · -- 49 True
            refine reg_nil ?_
            refine hK126 _ _ ?_
            refine wp_cond_true (ev_hit hN124 rfl) ?_
            refine wp_skip ?_
            refine hK125 _ _ ?_
            refine seq_any fun K127 hK127 => ?_
            refine wp_block ?_
            refine one_reg ?_
            have hlr : (bl.drop ((takeV bl).2.1.toNat + (takeL (bl.drop (takeV bl).2.1.toNat)).2.1.toNat)).length = bl.length - ((takeV bl).2.1.toNat + (takeL (bl.drop (takeV bl).2.1.toNat)).2.1.toNat) := by simp
            have hsm := ofBe_small (l := (bl.drop ((takeV bl).2.1.toNat + (takeL (bl.drop (takeV bl).2.1.toNat)).2.1.toNat)).take i) (by simp; omega)
            refine op_move (ev_base hN124 rfl s124_11) ?_
            refine op_mul (r := (((ofBe ((bl.drop ((takeV bl).2.1.toNat + (takeL (bl.drop (takeV bl).2.1.toNat)).2.1.toNat)).take i) : Nat) : Int) * 256)) (ev_hit hN124 rfl) rfl (wrap_u64 (by omega)) ?_
            refine op_move (ev_base hN124 rfl s124_0) ?_
            refine op_move (ev_base hN124 rfl s124_12) ?_
            refine op_index_rd slt22 (ev_hit hN124 rfl) hR106 (ev_hit hN124 rfl) (by omega) (by omega) ?_
            intro b128 o129 h0b128 h1b128 hc130
            refine op_load1 (v := (Value.int .u8 (((bl.drop ((takeV bl).2.1.toNat + (takeL (bl.drop (takeV bl).2.1.toNat)).2.1.toNat)).getD i 0).toNat : Int))) one5 (ev_hit hN124 rfl) (by have := hc130 0 (Value.int .u8 (((bl.drop ((takeV bl).2.1.toNat + (takeL (bl.drop (takeV bl).2.1.toNat)).2.1.toNat)).getD i 0).toNat : Int)) (by decide) (el_u8 (i := i) (by omega) (by omega)); simpa using this) ?_
            refine op_conv (r := (((bl.drop ((takeV bl).2.1.toNat + (takeL (bl.drop (takeV bl).2.1.toNat)).2.1.toNat)).getD i 0).toNat : Int)) (ev_hit hN124 rfl) us5 Try.underlying76 (wrap_u64 (by have := (((bl.drop ((takeV bl).2.1.toNat + (takeL (bl.drop (takeV bl).2.1.toNat)).2.1.toNat)).getD i 0)).toNat_lt; omega)) ?_
            refine op_add (r := (((ofBe ((bl.drop ((takeV bl).2.1.toNat + (takeL (bl.drop (takeV bl).2.1.toNat)).2.1.toNat)).take i) : Nat) : Int) * 256 + (((bl.drop ((takeV bl).2.1.toNat + (takeL (bl.drop (takeV bl).2.1.toNat)).2.1.toNat)).getD i 0).toNat : Int))) (ev_hit hN124 rfl) (ev_hit hN124 rfl) (wrap_u64 (by have := ((bl.drop ((takeV bl).2.1.toNat + (takeL (bl.drop (takeV bl).2.1.toNat)).2.1.toNat)).getD i 0).toNat_lt; omega)) ?_
            refine op_assign (ev_hit hN124 rfl) ?_
            refine reg_nil ?_
            refine hK127 _ _ ?_
            refine one_reg ?_
            refine op_move (ev_base hN124 rfl s124_12) ?_
            refine op_add (ev_hit hN124 rfl) rfl (add64 (by omega)) ?_
            refine op_assign (ev_hit hN124 rfl) ?_
            refine reg_nil ?_
            -- round 20F 32F 42F 46F 49T
            exact loop_next _ hN124 hd124 ⟨i + 1, rfl, (sl_base hN124 rfl s124_0), (sl_base hN124 rfl s124_2), (sl_base hN124 rfl s124_3), (sl_base hN124 rfl s124_4), (sl_base hN124 rfl s124_5), (sl_base hN124 rfl s124_6), (sl_base hN124 rfl s124_7), (sl_base hN124 rfl s124_8), (sl_base hN124 rfl s124_9), (sl_base hN124 rfl s124_10), (sl_base hN124 rfl s124_13), (sl_base hN124 rfl s124_14), (sl_base hN124 rfl s124_15), (sl_base hN124 rfl s124_16), (sl_base hN124 rfl s124_17), (sl_base hN124 rfl s124_18), (sl_base hN124 rfl s124_19), (sl_base hN124 rfl s124_20), (sl_base hN124 rfl s124_23), (sl_base hN124 rfl s124_24), (sl_base hN124 rfl s124_25), (sl_base hN124 rfl s124_26), (sl_base hN124 rfl s124_27), (sl_base hN124 rfl s124_28), (sl_base hN124 rfl s124_29), (sl_base hN124 rfl s124_30), (sl_base hN124 rfl s124_31), (sl_base hN124 rfl s124_32), (sl_base hN124 rfl s124_35), (sl_base hN124 rfl s124_36), (sl_base hN124 rfl s124_37), (sl_base hN124 rfl s124_38), (sl_base hN124 rfl s124_39), (sl_base hN124 rfl s124_40), (sl_base hN124 rfl s124_41), (sl_base hN124 rfl s124_42), (sl_base hN124 rfl s124_44), (sl_base hN124 rfl s124_45), (sl_base hN124 rfl s124_46), (sl_hit hN124 rfl).trans (congrArg (Value.int .i64) (by omega)), (sl_hit hN124 rfl).trans (congrArg (Value.int .u64) (by rw [take_snoc (l := (bl.drop ((takeV bl).2.1.toNat + (takeL (bl.drop (takeV bl).2.1.toNat)).2.1.toNat))) (i := i) (by omega), ofBe_snoc]; simp)), (by omega), hb, hv, hB70, hB78, hR92, hO94, hR106⟩ (by omega)
          · -- 49 False
            refine reg_nil ?_
            refine hK126 _ _ ?_
            refine wp_cond_false (ev_hit hN124 rfl) ?_
            refine wp_exit (then_exit (then_exit (blk_hit ?_)))
            refine hK122 _ _ ?_
            refine seq_any fun K131 hK131 => ?_
            refine one_reg ?_
            refine op_loadA (cs := [(Value.int .i64 (takeV bl).1.k), (Value.int .i64 (takeV bl).1.n), (Value.string (bs (takeV bl).1.s))]) agg50 rfl (ev_base hN124 rfl s124_6) (fun j u hu => by rw [Nat.zero_add]; exact hB78.cell hu) ?_
            refine op_move (ev_base hN124 rfl s124_9) ?_
            refine op_move (ev_base hN124 rfl s124_11) ?_
            have hB70_old := hB70
            refine op_store (vs := [(Value.int .i64 (takeV bl).1.k), (Value.int .i64 (takeV bl).1.n), (Value.string (bs (takeV bl).1.s))]) (cs' := [(Value.int .i64 (takeV bl).1.k), (Value.int .i64 (takeV bl).1.n), (Value.string (bs (takeV bl).1.s))]) size50 (ev_base hN124 rfl s124_2) (ev_hit hN124 rfl) rfl rfl rfl hB70 (Nat.le_of_ble_eq_true rfl) rfl ?_
            intro w134 hB70 E135
            have z_w134 := E135.size
            have hv := hv.keep E135 (fun k hk => .inr (by simp at hk; omega))
            have hB78 := hB78.keep E135 (by simp; omega)
            have hR92 := hR92.keep E135 (fun k hk => .inr (by simp at hk; omega))
            have hO94 := hO94.keepX hB70_old E135 (by decide)
            have hR106 := hR106.keep E135 (fun k hk => .inr (by simp at hk; omega))
            have hb := below_step1 hb E135 hb.size (by omega)
            refine op_assign (ev_hit hN124 rfl) ?_
            refine op_assign (ev_hit hN124 rfl) ?_
            refine op_assign rfl ?_
            refine reg_nil ?_
            refine hK131 _ _ ?_
            refine wp_ret ?_
            refine retN (rs := [.cell 2 50, .tmp 3, .tmp 4, .tmp 5]) (vs := [(Value.agg #[(Value.int .i64 (takeV bl).1.k), (Value.int .i64 (takeV bl).1.n), (Value.string (bs (takeV bl).1.s))]), u94, (Value.int .u64 ((ofBe ((bl.drop ((takeV bl).2.1.toNat + (takeL (bl.drop (takeV bl).2.1.toNat)).2.1.toNat)).take i) : Nat) : Int)), (Value.int .i64 0)]) rfl hd124 ⟨⟨_, (ev_base hN124 rfl s124_2), run_loadA (cs := [(Value.int .i64 (takeV bl).1.k), (Value.int .i64 (takeV bl).1.n), (Value.string (bs (takeV bl).1.s))]) agg50 rfl (fun j u hu => by rw [Nat.zero_add]; exact hB70.cell hu)⟩, ⟨(ev_hit hN124 rfl), ⟨(ev_hit hN124 rfl), ⟨(ev_hit hN124 rfl), trivial⟩⟩⟩⟩ rfl ⟨_, rfl, ?_⟩
            -- path 20F 32F 42F 46F 49F
            have hlr : (bl.drop ((takeV bl).2.1.toNat + (takeL (bl.drop (takeV bl).2.1.toNat)).2.1.toNat)).length = bl.length - ((takeV bl).2.1.toNat + (takeL (bl.drop (takeV bl).2.1.toNat)).2.1.toNat) := by simp
            have h8 : i = 8 := by omega
            have e8 : (bl.drop ((takeV bl).2.1.toNat + (takeL (bl.drop (takeV bl).2.1.toNat)).2.1.toNat)).take i = (bl.drop ((takeV bl).2.1.toNat + (takeL (bl.drop (takeV bl).2.1.toNat)).2.1.toNat)) := List.take_of_length_le (by omega)
            have e : takeX bl = ((takeV bl).1, (takeL (bl.drop (takeV bl).2.1.toNat)).1, ofBe (bl.drop ((takeV bl).2.1.toNat + (takeL (bl.drop (takeV bl).2.1.toNat)).2.1.toNat)), 0) := by rw [takeX, if_neg (by omega), if_neg (by omega), if_neg (by omega), if_neg (by omega)]
            exact ⟨hb, _, by rw [e, e8]; rfl, by rw [e]; exact hO94.mono (by omega)⟩

end Go.Proofs.Ytkkongnmcfdioaa
