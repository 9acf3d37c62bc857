/- Walks, written by a program: what each function of the translation hands back. -/
import Derived.Test.YtkkongnmcfdioaaR5
namespace Go.Proofs.Ytkkongnmcfdioaa
open Go.Gx Go.RowKit
attribute [local irreducible] wpList Code.wp Calls

theorem rowTake_ret (bl : List UInt8) (v : Value) (w : World) (hl : bl.length ≤ 1000000000000) (hv : RdC w 0 w.heap.size 1 v bl.length (bl.map u8v)) : Ret Try.prog 45 #[v] w (fun v' w' => Below w.heap.size w w' ∧ ∃ u, v' = .tuple #[u, .int .i64 (takeR bl).2] ∧ Own w' w.heap.size 50 3 u (takeR bl).1.length ((takeR bl).1.flatMap cellsV)) := by
  have hb := Below.refl w.heap.size w
  refine enter (N := 43) Try.func45 rfl rfl (by simp) fun a0 hN hd hA => ?_
  have s0 : a0.tmps.getD 0 undef = v := hA 0 (by simp)
  clear hA
  refine seq_any fun K1 hK1 => ?_
  refine one_reg ?_
  refine op_assign rfl ?_
  refine op_assign rfl ?_
  refine reg_nil ?_
  refine hK1 _ _ ?_
  refine seq_any fun K2 hK2 => ?_
  refine seq_any fun K3 hK3 => ?_
  refine one_reg ?_
  refine op_move (ev_base hN rfl s0) ?_
  refine op_len_rd Try.underlying22 (ev_hit hN rfl) hv ?_
  refine op_eql (ev_hit hN rfl) rfl (fun c10 => ?_) (fun c10 => ?_)
  · -- 10 True
    refine reg_nil ?_
    refine hK3 _ _ ?_
    refine wp_cond_true (ev_hit hN rfl) ?_
    refine seq_any fun K4 hK4 => ?_
    refine one_reg ?_
    refine op_assign rfl ?_
    refine op_assign rfl ?_
    refine reg_nil ?_
    refine hK4 _ _ ?_
    refine wp_ret (then_ret ( ?_))
    refine ret2 rfl hd (ev_hit hN rfl) (ev_hit hN rfl) ⟨_, rfl, ?_⟩
    -- path 10T
    have e : takeR bl = ([], 2) := by rw [takeR, if_pos (by omega)]
    exact ⟨hb, _, by rw [e]; rfl, by rw [e]; exact Own.nil _ _ _ _⟩
  · -- 10 False
    refine reg_nil ?_
    refine hK3 _ _ ?_
    refine wp_cond_false (ev_hit hN rfl) ?_
    refine wp_skip ?_
    refine hK2 _ _ ?_
    refine seq_any fun K5 hK5 => ?_
    refine one_reg ?_
    refine op_move (ev_base hN rfl s0) ?_
    refine op_index_rd slt22 (ev_hit hN rfl) hv rfl (by omega) (by omega) ?_
    intro b6 o7 h0b6 h1b6 hc8
    refine op_load1 (v := (Value.int .u8 ((bl.getD 0 0).toNat : Int))) one5 (ev_hit hN rfl) (by have := hc8 0 (Value.int .u8 ((bl.getD 0 0).toNat : Int)) (by decide) (el_u8 (i := 0) (by omega) (by omega)); simpa using this) ?_
    refine op_conv (r := ((bl.getD 0 0).toNat : Int)) (ev_hit hN rfl) us5 Try.underlying3 (wrap_i64 (by have := ((bl.getD 0 0)).toNat_lt; omega)) ?_
    refine op_assign (ev_hit hN rfl) ?_
    refine reg_nil ?_
    refine hK5 _ _ ?_
    refine seq_any fun K9 hK9 => ?_
    refine seq_any fun K10 hK10 => ?_
    refine one_reg ?_
    refine op_move (ev_hit hN rfl) ?_
    refine op_lss (ev_hit hN rfl) rfl (fun c16 => ?_) (fun c16 => ?_)
    · -- 16 True
      refine op_move (ev_hit hN rfl) ?_
      refine g_false (j := 2) (dj := 17) (b := false) rfl rfl rfl (ev_hit hN rfl) rfl rfl ?_
      refine g_false (j := 2) (dj := 17) (b := false) rfl rfl rfl (ev_hit hN rfl) rfl rfl ?_
      refine op_pick_t (ev_hit hN rfl) rfl ?_
      refine reg_nil ?_
      refine hK10 _ _ ?_
      refine wp_cond_true (ev_hit hN rfl) ?_
      refine seq_any fun K11 hK11 => ?_
      refine one_reg ?_
      refine op_assign rfl ?_
      refine op_assign rfl ?_
      refine reg_nil ?_
      refine hK11 _ _ ?_
      refine wp_ret (then_ret ( ?_))
      refine ret2 rfl hd (ev_hit hN rfl) (ev_hit hN rfl) ⟨_, rfl, ?_⟩
      -- path 10F 16T
      have e : takeR bl = ([], 3) := by rw [takeR, if_neg (by omega), if_pos (by omega)]
      exact ⟨hb, _, by rw [e]; rfl, by rw [e]; exact Own.nil _ _ _ _⟩
    · -- 16 False
      refine op_move (ev_hit hN rfl) ?_
      refine g_true (j := 2) (dj := 17) (b := false) rfl rfl rfl (ev_hit hN rfl) ?_
      refine op_move (ev_hit hN rfl) ?_
      refine g_true (j := 2) (dj := 17) (b := false) rfl rfl rfl (ev_hit hN rfl) ?_
      refine op_gtr (ev_hit hN rfl) rfl (fun c19 => ?_) (fun c19 => ?_)
      · -- 19 True
        refine op_pick_f (ev_hit hN rfl) (ev_hit hN rfl) ?_
        refine reg_nil ?_
        refine hK10 _ _ ?_
        refine wp_cond_true (ev_hit hN rfl) ?_
        refine seq_any fun K12 hK12 => ?_
        refine one_reg ?_
        refine op_assign rfl ?_
        refine op_assign rfl ?_
        refine reg_nil ?_
        refine hK12 _ _ ?_
        refine wp_ret (then_ret ( ?_))
        refine ret2 rfl hd (ev_hit hN rfl) (ev_hit hN rfl) ⟨_, rfl, ?_⟩
        -- path 10F 16F 19T
        have e : takeR bl = ([], 3) := by rw [takeR, if_neg (by omega), if_pos (by omega)]
        exact ⟨hb, _, by rw [e]; rfl, by rw [e]; exact Own.nil _ _ _ _⟩
      · -- 19 False
        refine op_pick_f (ev_hit hN rfl) (ev_hit hN rfl) ?_
        refine reg_nil ?_
        refine hK10 _ _ ?_
        refine wp_cond_false (ev_hit hN rfl) ?_
        refine wp_skip ?_
        refine hK9 _ _ ?_
        refine seq_any fun K13 hK13 => ?_
        refine one_reg ?_
        refine op_move (ev_base hN rfl s0) ?_
        refine op_slice_rd (lo := 1) (hi := bl.length) slt22 (ev_hit hN rfl) hv (.inr ⟨_, _, rfl, rfl⟩) (.inl ⟨rfl, rfl⟩) (by omega) (by omega) ?_
        intro v14 hR15
        have hR15 : RdC w 0 w.heap.size 1 v14 (bl.length - 1) (((bl.drop 1)).map u8v) := by simpa [List.map_drop, List.map_take, List.take_of_length_le] using hR15
        refine op_build (pv := [(0, v14), (1, (Value.func (.func 40) #[] #[]))]) (v := (Value.agg #[v14, (Value.func (.func 40) #[] #[])])) ⟨rfl, (ev_hit hN rfl), ⟨rfl, rfl, trivial⟩⟩ (by obtain ⟨_, _, _, rfl⟩ := hR15.sl; kernel_rfl) ?_
        refine op_box (cs := [v14, (Value.func (.func 40) #[] #[])]) (ev_hit hN rfl) rfl ?_
        intro w16 b17 lo_b17 hi_b17 hB19 E18
        have z_w16 := E18.size
        have hv := hv.keep0 E18
        have hR15 := hR15.keep0 E18
        have hb := below_step0 hb E18 hb.size
        refine op_assign (ev_hit hN rfl) ?_
        refine reg_nil ?_
        refine hK13 _ _ ?_
        refine seq_any fun K20 hK20 => ?_
        refine one_reg ?_
        refine op_move (ev_hit hN rfl) ?_
        refine op_move (ev_hit hN rfl) ?_
        have hc0 := (bl.getD 0 0).toNat_lt
        refine op_fn (vs := [(ptr b17 0), (Value.int .i64 ((bl.getD 0 0).toNat : Int))]) ok73 ⟨(ev_hit hN rfl), ⟨(ev_hit hN rfl), trivial⟩⟩ (many_ret (bl.drop 1) b17 (bl.getD 0 0).toNat _ _ (by first | assumption | omega | (simp only [List.length_append, List.length_cons, List.length_nil, List.length_drop, List.length_take]; omega) | (dsimp only; omega) | decide | (simp [keyV, be8_len]; done)) (by first | assumption | omega | (simp only [List.length_append, List.length_cons, List.length_nil, List.length_drop, List.length_take]; omega) | (dsimp only; omega) | decide | (simp [keyV, be8_len]; done)) hB19 ((hR15.mono (L' := 0) (B' := b17) (Nat.zero_le _) (by omega)).cast (by first | rfl | simp) rfl)) ?_
        rintro _ w22 ⟨E23, u21, v21, rfl, hu21, hq21, hx21⟩
        have hB19_old := hB19
        have z_w22 := E23.size
        have hv := hv.keep E23 (fun k hk => .inr (by simp at hk; omega))
        have hR15 := hR15.keep E23 (fun k hk => .inr (by simp at hk; omega))
        have hb := below_step1 hb E23 hb.size (by omega)
        refine op_move (ev_hit hN rfl) ?_
        refine op_extract (ev_hit hN rfl) rfl ?_
        refine op_extract (ev_hit hN rfl) rfl ?_
        refine op_assign (ev_hit hN rfl) ?_
        refine op_assign (ev_hit hN rfl) ?_
        refine reg_nil ?_
        refine hK20 _ _ ?_
        refine seq_any fun K24 hK24 => ?_
        refine wp_block ?_
        refine seq_any fun K25 hK25 => ?_
        refine one_reg ?_
        refine op_move (ev_hit hN rfl) ?_
        refine op_neq (ev_hit hN rfl) rfl (fun c33 => ?_) (fun c33 => ?_)
        · -- 33 True
          refine op_assign (ev_hit hN rfl) ?_
          refine reg_nil ?_
          refine hK25 _ _ ?_
          refine wp_cond_true (ev_hit hN rfl) ?_
          refine seq_any fun K26 hK26 => ?_
          refine one_reg ?_
          refine op_move (ev_hit hN rfl) ?_
          refine op_assign rfl ?_
          refine op_assign (ev_hit hN rfl) ?_
          refine reg_nil ?_
          refine hK26 _ _ ?_
          refine wp_ret (blk_ret (then_ret ( ?_)))
          refine ret2 rfl hd (ev_hit hN rfl) (ev_hit hN rfl) ⟨_, rfl, ?_⟩
          -- path 10F 16F 19F 33T
          have e : takeR bl = ([], (manyA [] (bl.getD 0 0).toNat (bl.drop 1)).2.2) := by rw [takeR, if_neg (by omega), if_neg (by omega), if_pos (by omega)]
          exact ⟨hb, _, by rw [e]; rfl, by rw [e]; exact Own.nil _ _ _ _⟩
        · -- 33 False
          refine op_assign (ev_hit hN rfl) ?_
          refine reg_nil ?_
          refine hK25 _ _ ?_
          refine wp_cond_false (ev_hit hN rfl) ?_
          refine seq_any fun K27 hK27 => ?_
          refine one_reg ?_
          refine op_move (ev_hit hN rfl) ?_
          refine op_nil (ev_hit hN rfl) ?_
          refine op_field fld105_0 (ev_hit hN rfl) ?_
          refine op_load1 (v := v21) one22 (ev_hit hN rfl) (hx21.cell rfl) ?_
          refine op_len_rd Try.underlying22 (ev_hit hN rfl) hq21 ?_
          refine op_gtr (ev_hit hN rfl) rfl (fun c41 => ?_) (fun c41 => ?_)
          · -- 41 True
            refine op_assign (ev_hit hN rfl) ?_
            refine reg_nil ?_
            refine hK27 _ _ ?_
            refine wp_cond_true (ev_hit hN rfl) ?_
            refine seq_any fun K28 hK28 => ?_
            refine one_reg ?_
            refine op_assign rfl ?_
            refine op_assign rfl ?_
            refine reg_nil ?_
            refine hK28 _ _ ?_
            refine wp_ret (blk_ret (then_ret ( ?_)))
            refine ret2 rfl hd (ev_hit hN rfl) (ev_hit hN rfl) ⟨_, rfl, ?_⟩
            -- path 10F 16F 19F 33F 41T
            have e : takeR bl = ([], 3) := by rw [takeR, if_neg (by omega), if_neg (by omega), if_neg (by omega), if_pos (by omega)]
            exact ⟨hb, _, by rw [e]; rfl, by rw [e]; exact Own.nil _ _ _ _⟩
          · -- 41 False
            refine op_assign (ev_hit hN rfl) ?_
            refine reg_nil ?_
            refine hK27 _ _ ?_
            refine wp_cond_false (ev_hit hN rfl) ?_
            refine wp_skip ?_
            refine hK24 _ _ ?_
            refine seq_any fun K29 hK29 => ?_
            refine one_reg ?_
            refine op_move (ev_hit hN rfl) ?_
            refine op_assign (ev_hit hN rfl) ?_
            refine op_assign rfl ?_
            refine reg_nil ?_
            refine hK29 _ _ ?_
            refine wp_ret ?_
            refine ret2 rfl hd (ev_hit hN rfl) (ev_hit hN rfl) ⟨_, rfl, ?_⟩
            -- path 10F 16F 19F 33F 41F
            have e : takeR bl = ((manyA [] (bl.getD 0 0).toNat (bl.drop 1)).1, 0) := by rw [takeR, if_neg (by omega), if_neg (by omega), if_neg (by omega), if_neg (by omega)]
            exact ⟨hb, _, by rw [e]; rfl, by rw [e]; exact hu21.mono (by omega)⟩

end Go.Proofs.Ytkkongnmcfdioaa
