/- Walks, written by a program: what each function of the translation hands back. -/
import Derived.Test.YtkkongnmcfdioaaR6
namespace Go.Proofs.Ytkkongnmcfdioaa
open Go.Gx Go.RowKit
attribute [local irreducible] wpList Code.wp Calls

theorem TakeRow_ret (bl : List UInt8) (v : Value) (w : World) (hl : bl.length ≤ 1000000000000) (hv : RdC w 0 w.heap.size 1 v bl.length (bl.map u8v)) : Ret Try.prog 46 #[v] w (fun v' w' => Below w.heap.size w w' ∧ ∃ u, v' = .tuple #[u, .int .i64 (takeR bl).2] ∧ Own w' w.heap.size 50 3 u (takeR bl).1.length ((takeR bl).1.flatMap cellsV)) := by
  have hb := Below.refl w.heap.size w
  refine enter (N := 50) Try.func46 rfl rfl (by simp) fun a0 hN hd hA => ?_
  have s0 : a0.tmps.getD 0 undef = v := hA 0 (by simp)
  clear hA
  refine seq_any fun K1 hK1 => ?_
  refine one_reg ?_
  refine op_assign rfl ?_
  refine op_assign rfl ?_
  refine reg_nil ?_
  refine hK1 _ _ ?_
  refine seq_any fun K2 hK2 => ?_
  refine seq_any fun K3 hK3 => ?_
  refine one_reg ?_
  refine op_move (ev_base hN rfl s0) ?_
  refine op_len_rd Try.underlying22 (ev_hit hN rfl) hv ?_
  refine op_lss (ev_hit hN rfl) rfl (fun c12 => ?_) (fun c12 => ?_)
  · -- 12 True
    refine reg_nil ?_
    refine hK3 _ _ ?_
    refine wp_cond_true (ev_hit hN rfl) ?_
    refine seq_any fun K4 hK4 => ?_
    refine one_reg ?_
    refine op_assign rfl ?_
    refine op_assign rfl ?_
    refine reg_nil ?_
    refine hK4 _ _ ?_
    refine wp_ret (then_ret ( ?_))
    refine ret2 rfl hd (ev_hit hN rfl) (ev_hit hN rfl) ⟨_, rfl, ?_⟩
    -- path 12T
    have e : takeR bl = ([], 2) := by rw [takeR, if_pos (by omega)]
    exact ⟨hb, _, by rw [e]; rfl, by rw [e]; exact Own.nil _ _ _ _⟩
  · -- 12 False
    refine reg_nil ?_
    refine hK3 _ _ ?_
    refine wp_cond_false (ev_hit hN rfl) ?_
    refine wp_skip ?_
    refine hK2 _ _ ?_
    refine seq_any fun K5 hK5 => ?_
    refine one_reg ?_
    refine op_move (ev_base hN rfl s0) ?_
    refine op_index_rd slt22 (ev_hit hN rfl) hv rfl (by omega) (by omega) ?_
    intro b6 o7 h0b6 h1b6 hc8
    refine op_load1 (v := (Value.int .u8 ((bl.getD 0 0).toNat : Int))) one5 (ev_hit hN rfl) (by have := hc8 0 (Value.int .u8 ((bl.getD 0 0).toNat : Int)) (by decide) (el_u8 (i := 0) (by omega) (by omega)); simpa using this) ?_
    refine op_conv (r := ((bl.getD 0 0).toNat : Int)) (ev_hit hN rfl) us5 Try.underlying3 (wrap_i64 (by have := ((bl.getD 0 0)).toNat_lt; omega)) ?_
    refine op_assign (ev_hit hN rfl) ?_
    refine reg_nil ?_
    refine hK5 _ _ ?_
    refine seq_any fun K9 hK9 => ?_
    refine seq_any fun K10 hK10 => ?_
    refine one_reg ?_
    refine op_move (ev_hit hN rfl) ?_
    refine op_lss (ev_hit hN rfl) rfl (fun c18 => ?_) (fun c18 => ?_)
    · -- 18 True
      refine op_move (ev_hit hN rfl) ?_
      refine g_false (j := 2) (dj := 19) (b := false) rfl rfl rfl (ev_hit hN rfl) rfl rfl ?_
      refine g_false (j := 2) (dj := 19) (b := false) rfl rfl rfl (ev_hit hN rfl) rfl rfl ?_
      refine op_pick_t (ev_hit hN rfl) rfl ?_
      refine reg_nil ?_
      refine hK10 _ _ ?_
      refine wp_cond_true (ev_hit hN rfl) ?_
      refine seq_any fun K11 hK11 => ?_
      refine one_reg ?_
      refine op_assign rfl ?_
      refine op_assign rfl ?_
      refine reg_nil ?_
      refine hK11 _ _ ?_
      refine wp_ret (then_ret ( ?_))
      refine ret2 rfl hd (ev_hit hN rfl) (ev_hit hN rfl) ⟨_, rfl, ?_⟩
      -- path 12F 18T
      have e : takeR bl = ([], 3) := by rw [takeR, if_neg (by omega), if_pos (by omega)]
      exact ⟨hb, _, by rw [e]; rfl, by rw [e]; exact Own.nil _ _ _ _⟩
    · -- 18 False
      refine op_move (ev_hit hN rfl) ?_
      refine g_true (j := 2) (dj := 19) (b := false) rfl rfl rfl (ev_hit hN rfl) ?_
      refine op_move (ev_hit hN rfl) ?_
      refine g_true (j := 2) (dj := 19) (b := false) rfl rfl rfl (ev_hit hN rfl) ?_
      refine op_gtr (ev_hit hN rfl) rfl (fun c21 => ?_) (fun c21 => ?_)
      · -- 21 True
        refine op_pick_f (ev_hit hN rfl) (ev_hit hN rfl) ?_
        refine reg_nil ?_
        refine hK10 _ _ ?_
        refine wp_cond_true (ev_hit hN rfl) ?_
        refine seq_any fun K12 hK12 => ?_
        refine one_reg ?_
        refine op_assign rfl ?_
        refine op_assign rfl ?_
        refine reg_nil ?_
        refine hK12 _ _ ?_
        refine wp_ret (then_ret ( ?_))
        refine ret2 rfl hd (ev_hit hN rfl) (ev_hit hN rfl) ⟨_, rfl, ?_⟩
        -- path 12F 18F 21T
        have e : takeR bl = ([], 3) := by rw [takeR, if_neg (by omega), if_pos (by omega)]
        exact ⟨hb, _, by rw [e]; rfl, by rw [e]; exact Own.nil _ _ _ _⟩
      · -- 21 False
        refine op_pick_f (ev_hit hN rfl) (ev_hit hN rfl) ?_
        refine reg_nil ?_
        refine hK10 _ _ ?_
        refine wp_cond_false (ev_hit hN rfl) ?_
        refine wp_skip ?_
        refine hK9 _ _ ?_
        refine seq_any fun K13 hK13 => ?_
        refine one_reg ?_
        refine op_move (ev_base hN rfl s0) ?_
        refine op_slice_rd (lo := 1) (hi := bl.length) slt22 (ev_hit hN rfl) hv (.inr ⟨_, _, rfl, rfl⟩) (.inl ⟨rfl, rfl⟩) (by omega) (by omega) ?_
        intro v14 hR15
        have hR15 : RdC w 0 w.heap.size 1 v14 (bl.length - 1) (((bl.drop 1)).map u8v) := by simpa [List.map_drop, List.map_take, List.take_of_length_le] using hR15
        refine op_assign (ev_hit hN rfl) ?_
        refine reg_nil ?_
        refine hK13 _ _ ?_
        refine seq_any fun K16 hK16 => ?_
        refine one_reg ?_
        refine op_assign rfl ?_
        refine reg_nil ?_
        refine hK16 _ _ ?_
        refine seq_any fun K17 hK17 => ?_
        refine seq_any fun K18 hK18 => ?_
        refine one_reg ?_
        refine op_assign rfl ?_
        refine reg_nil ?_
        refine hK18 _ _ ?_
        refine wp_block ?_
        have hc0 := (bl.getD 0 0).toNat_lt
        refine loop_m (fun mz_ a w' => ∃ (i : Nat) (acc : List Vl) (bq : List UInt8) (bu u : Value), mz_ = (bl.getD 0 0).toNat - i ∧ (a.tmps.getD 4 undef = (Value.int .i64 ((bl.getD 0 0).toNat : Int))) ∧ (a.tmps.getD 10 undef = v) ∧ (a.tmps.getD 11 undef = (Value.int .i64 ((bl.length : Nat) : Int))) ∧ (a.tmps.getD 12 undef = (Value.bool false)) ∧ (a.tmps.getD 13 undef = v) ∧ (a.tmps.getD 14 undef = (ptr b6 o7)) ∧ (a.tmps.getD 15 undef = (Value.int .u8 ((bl.getD 0 0).toNat : Int))) ∧ (a.tmps.getD 16 undef = (Value.int .i64 ((bl.getD 0 0).toNat : Int))) ∧ (a.tmps.getD 17 undef = (Value.int .i64 ((bl.getD 0 0).toNat : Int))) ∧ (a.tmps.getD 18 undef = (Value.bool false)) ∧ (a.tmps.getD 19 undef = (Value.bool false)) ∧ (a.tmps.getD 20 undef = (Value.int .i64 ((bl.getD 0 0).toNat : Int))) ∧ (a.tmps.getD 21 undef = (Value.bool false)) ∧ (a.tmps.getD 22 undef = (Value.bool false)) ∧ (a.tmps.getD 23 undef = v) ∧ (a.tmps.getD 24 undef = v14) ∧ (a.tmps.getD 6 undef = (Value.int .i64 ((i : Nat) : Int))) ∧ (a.tmps.getD 5 undef = u) ∧ (a.tmps.getD 0 undef = bu) ∧ (i ≤ (bl.getD 0 0).toNat) ∧ (acc.length = i) ∧ (bq.length ≤ 1000000000000) ∧ ((manyA [] (bl.getD 0 0).toNat (bl.drop 1)) = manyA acc ((bl.getD 0 0).toNat - i) bq) ∧ (Below w.heap.size w w') ∧ (RdC w' 0 w.heap.size 1 bu bq.length (bq.map u8v)) ∧ (Own w' w.heap.size 50 3 u acc.length (acc.flatMap cellsV))) _ hN hd ⟨0, [], (bl.drop 1), _, _, rfl, (sl_hit hN rfl), (sl_hit hN rfl), (sl_hit hN rfl), (sl_hit hN rfl), (sl_hit hN rfl), (sl_hit hN rfl), (sl_hit hN rfl), (sl_hit hN rfl), (sl_hit hN rfl), (sl_hit hN rfl), (sl_hit hN rfl), (sl_hit hN rfl), (sl_hit hN rfl), (sl_hit hN rfl), (sl_hit hN rfl), (sl_hit hN rfl), (sl_hit hN rfl), (sl_hit hN rfl), (sl_hit hN rfl), Nat.zero_le _, rfl, (by simp; omega), rfl, hb, (hR15.cast (by simp) rfl), (Own.nil _ _ _ _)⟩ ?_
        rintro _ a19 w19 hN19 hd19 ⟨i, acc, bq, bu, u, rfl, s19_4, s19_10, s19_11, s19_12, s19_13, s19_14, s19_15, s19_16, s19_17, s19_18, s19_19, s19_20, s19_21, s19_22, s19_23, s19_24, s19_6, s19_5, s19_0, hi, hacc, hbq, hm, hb, hvq, hO20⟩
        have z_w19 := hb.size
        refine seq_any fun K21 hK21 => ?_
        refine seq_any fun K22 hK22 => ?_
        refine one_reg ?_
        refine op_move (ev_base hN19 rfl s19_6) ?_
        refine op_move (ev_base hN19 rfl s19_4) ?_
        refine op_lss (ev_hit hN19 rfl) (ev_hit hN19 rfl) (fun c27 => ?_) (fun c27 => ?_)
        · -- 27 True
          refine reg_nil ?_
          refine hK22 _ _ ?_
          refine wp_cond_true (ev_hit hN19 rfl) ?_
          refine wp_skip ?_
          refine hK21 _ _ ?_
          refine seq_any fun K23 hK23 => ?_
          refine wp_block ?_
          refine seq_any fun K24 hK24 => ?_
          refine one_reg ?_
          refine op_move (ev_base hN19 rfl s19_0) ?_
          have hq25 : RdC w19 0 w19.heap.size 1 bu bq.length (bq.map u8v) := by have hh : RdC w19 0 w19.heap.size 1 _ _ _ := (hvq.mono (L' := 0) (B' := w19.heap.size) (Nat.zero_le _) (by omega)); first | simpa using hh | simpa [Nat.add_comm, Nat.add_left_comm, Nat.add_assoc] using hh
          refine op_fn (vs := [bu]) ok41 ⟨(ev_hit hN19 rfl), trivial⟩ (TakeKey_ret bq bu _ (by first | assumption | omega | (simp only [List.length_append, List.length_cons, List.length_nil, List.length_drop, List.length_take]; omega) | (dsimp only; omega) | decide | (simp [keyV, be8_len]; done)) hq25) ?_
          rintro _ w26 ⟨E27, rfl⟩
          have E27 := grown_of_below E27
          have z_w26 := E27.size
          have hvq := hvq.keep0 E27
          have hO20 := hO20.keep0 E27
          have hb := below_step0 hb E27 hb.size
          refine op_move (ev_hit hN19 rfl) ?_
          refine op_extract (ev_hit hN19 rfl) rfl ?_
          refine op_extract (ev_hit hN19 rfl) rfl ?_
          refine op_extract (ev_hit hN19 rfl) rfl ?_
          refine op_alloc (cs := [(Value.int .i64 0), (Value.int .i64 0), (Value.string (bs []))]) zero50 rfl ?_
          intro w28 b29 lo_b29 hi_b29 hB31 E30
          have ne_b29_u : u.ownBlock ≠ some b29 := fun hh => by have := (hO20.lt _ hh).2; omega
          have z_w28 := E30.size
          have hvq := hvq.keep0 E30
          have hO20 := hO20.keep0 E30
          have hb := below_step0 hb E30 hb.size
          have hB31_old := hB31
          refine op_store (vs := [(Value.int .i64 (takeV bq).1.k), (Value.int .i64 (takeV bq).1.n), (Value.string (bs (takeV bq).1.s))]) (cs' := [(Value.int .i64 (takeV bq).1.k), (Value.int .i64 (takeV bq).1.n), (Value.string (bs (takeV bq).1.s))]) size50 (ev_hit hN19 rfl) (ev_hit hN19 rfl) rfl rfl rfl hB31 (Nat.le_of_ble_eq_true rfl) rfl ?_
          intro w34 hB31 E35
          have z_w34 := E35.size
          have hvq := hvq.keep E35 (fun k hk => .inr (by simp at hk; omega))
          have hO20 := hO20.keep E35 (.inr ne_b29_u)
          have hb := below_step1 hb E35 hb.size (by omega)
          refine op_assign (ev_hit hN19 rfl) ?_
          refine op_assign (ev_hit hN19 rfl) ?_
          refine reg_nil ?_
          refine hK24 _ _ ?_
          refine seq_any fun K36 hK36 => ?_
          refine seq_any fun K37 hK37 => ?_
          refine one_reg ?_
          refine op_move (ev_hit hN19 rfl) ?_
          refine op_neq (ev_hit hN19 rfl) rfl (fun c37 => ?_) (fun c37 => ?_)
          · -- 37 True
            refine reg_nil ?_
            refine hK37 _ _ ?_
            refine wp_cond_true (ev_hit hN19 rfl) ?_
            refine seq_any fun K38 hK38 => ?_
            refine one_reg ?_
            refine op_move (ev_hit hN19 rfl) ?_
            refine op_assign rfl ?_
            refine op_assign (ev_hit hN19 rfl) ?_
            refine reg_nil ?_
            refine hK38 _ _ ?_
            refine wp_ret (then_ret (blk_ret (then_ret (then_ret (blk_ret (then_ret ( ?_)))))))
            refine ret2 rfl hd19 (ev_hit hN19 rfl) (ev_hit hN19 rfl) ⟨_, rfl, ?_⟩
            -- path 12F 18F 21F 27T 37T
            have hm2 := hm.trans (many_bad (by omega) (by omega))
            have e : takeR bl = ([], (takeV bq).2.2) := by rw [takeR, if_neg (by omega), if_neg (by omega), hm2, if_pos (by assumption)]
            exact ⟨hb, _, by rw [e]; rfl, by rw [e]; exact Own.nil _ _ _ _⟩
          · -- 37 False
            refine reg_nil ?_
            refine hK37 _ _ ?_
            refine wp_cond_false (ev_hit hN19 rfl) ?_
            refine wp_skip ?_
            refine hK36 _ _ ?_
            have htl := takeV_len bq
            refine reg_chain (Φ := phiC [(fun _ _ uz _ => uz = u), (fun _ _ uz _ => uz = (Value.agg #[(Value.int .i64 (takeV bq).1.k), (Value.int .i64 (takeV bq).1.n), (Value.string (bs (takeV bq).1.s))])), (fun _ vz uz w' => ∃ (b40 : Nat), uz = (Value.slice (some ⟨b40, 0, none⟩) 1 1) ∧ w34.heap.size ≤ b40 ∧ Bx w' b40 50 [(Value.int .i64 (takeV bq).1.k), (Value.int .i64 (takeV bq).1.n), (Value.string (bs (takeV bq).1.s))] ∧ vz.ownBlock ≠ some b40), chP 0, (fun _ _ uz _ => uz = bu), (fun _ _ uz _ => uz = (Value.int .i64 (takeV bq).2.1)), (fun _ vz uz w' => ∃ (v49 : Value), uz = v49 ∧ RdC w' 0 w.heap.size 1 v49 (bq.length - (takeV bq).2.1.toNat) (((bq.drop (takeV bq).2.1.toNat)).map u8v) ∧ (w.heap.size ≤ w'.heap.size ∧ ∀ k, vz.ownBlock = some k → w.heap.size ≤ k)), chP 0, (fun _ vz uz w' => ∃ (y39 : Value), uz = y39 ∧ RdC w' 0 w.heap.size 1 y39 (bq.length - (takeV bq).2.1.toNat) (((bq.drop (takeV bq).2.1.toNat)).map u8v) ∧ (w.heap.size ≤ w'.heap.size ∧ ∀ k, vz.ownBlock = some k → w.heap.size ≤ k))]) (C := CL [(fun vz w' => Own w' w.heap.size 50 3 vz acc.length (acc.flatMap cellsV)), (fun vz w' => Own w' w.heap.size 50 3 vz (acc.length + 1) (((acc ++ [(takeV bq).1])).flatMap cellsV))]) ⟨[3], fun c => [50, 42].getD c 50⟩ u mixed (by kernel_rfl) (by kernel_rfl) (by kernel_rfl) (by kernel_rfl) hN19 (StK.get0 (n := 1) (StK.eq (StK.eq (StK.cons (fun c v u w1 w2 E h => by obtain ⟨x0, hv, l0, f0, q0⟩ := h; exact ⟨x0, hv, l0, f0.keep0 E, q0⟩) (fun c v v' u w1 w2 _ E h => by obtain ⟨x0, hv, l0, f0, q0⟩ := h; exact ⟨x0, hv, l0, f0.keep E.1 (fun hh => q0 hh.symm), ne_step E f0.lt q0⟩) (StK.ch (StK.eq (StK.eq (StK.cons (fun c v u w1 w2 E h => by obtain ⟨x0, hv, f0, q0⟩ := h; exact ⟨x0, hv, f0.keep0 E, ⟨Nat.le_trans q0.1 E.size, q0.2⟩⟩) (fun c v v' u w1 w2 _ E h => by obtain ⟨x0, hv, f0, q0⟩ := h; exact ⟨x0, hv, f0.keep E.1 (fun k hk => .inr (q0.2 k hk)), ⟨Nat.le_trans q0.1 E.1.size, ge_step E q0.1 q0.2⟩⟩) (StK.ch (StK.cons (fun c v u w1 w2 E h => by obtain ⟨x0, hv, f0, q0⟩ := h; exact ⟨x0, hv, f0.keep0 E, ⟨Nat.le_trans q0.1 E.size, q0.2⟩⟩) (fun c v v' u w1 w2 _ E h => by obtain ⟨x0, hv, f0, q0⟩ := h; exact ⟨x0, hv, f0.keep E.1 (fun k hk => .inr (q0.2 k hk)), ⟨Nat.le_trans q0.1 E.1.size, ge_step E q0.1 q0.2⟩⟩) (StK.nil))))))))))) (StK.get1 (n := 1) (StK.eq (StK.eq (StK.cons (fun c v u w1 w2 E h => by obtain ⟨x0, hv, l0, f0, q0⟩ := h; exact ⟨x0, hv, l0, f0.keep0 E, q0⟩) (fun c v v' u w1 w2 _ E h => by obtain ⟨x0, hv, l0, f0, q0⟩ := h; exact ⟨x0, hv, l0, f0.keep E.1 (fun hh => q0 hh.symm), ne_step E f0.lt q0⟩) (StK.ch (StK.eq (StK.eq (StK.cons (fun c v u w1 w2 E h => by obtain ⟨x0, hv, f0, q0⟩ := h; exact ⟨x0, hv, f0.keep0 E, ⟨Nat.le_trans q0.1 E.size, q0.2⟩⟩) (fun c v v' u w1 w2 _ E h => by obtain ⟨x0, hv, f0, q0⟩ := h; exact ⟨x0, hv, f0.keep E.1 (fun k hk => .inr (q0.2 k hk)), ⟨Nat.le_trans q0.1 E.1.size, ge_step E q0.1 q0.2⟩⟩) (StK.ch (StK.cons (fun c v u w1 w2 E h => by obtain ⟨x0, hv, f0, q0⟩ := h; exact ⟨x0, hv, f0.keep0 E, ⟨Nat.le_trans q0.1 E.size, q0.2⟩⟩) (fun c v v' u w1 w2 _ E h => by obtain ⟨x0, hv, f0, q0⟩ := h; exact ⟨x0, hv, f0.keep E.1 (fun k hk => .inr (q0.2 k hk)), ⟨Nat.le_trans q0.1 E.1.size, ge_step E q0.1 q0.2⟩⟩) (StK.nil))))))))))) (StL2.get0 (StL2.own (StL2.own (StL2.nil)))) (StL2.get1 (StL2.own (StL2.own (StL2.nil)))) hO20 (ObLn.get (ObLn.cons ?_ (ObLn.cons ?_ (ObLn.cons ?_ (ObLn.pass rfl (ObLn.cons ?_ (ObLn.cons ?_ (ObLn.cons ?_ (ObLn.cons ?_ (ObLn.cons ?_ (ObLn.nil))))))))))) (ObLc.get (ObLc.cons ?_ (ObLc.nil))) ?_
            · -- operation 0, slot 39
              intro a41 w41 cc41 cv41 hN41 hcl41 hR41 hlt41 hvo41 hbs41 hdp41
              have hR41 : w34.grownBy w41 u.ownBlock := hR41
              have hO20_o := hO20
              have q41_5 : a41.tmps.getD 5 undef = u := (hbs41 5 (by kernel_rfl)).trans (sl_base hN19 rfl s19_5)
              clear hbs41 hdp41
              refine op_move (ev_base hN41 rfl q41_5) ?_
              exact obNc_end rfl rfl ((grown_refl _ _))
            · -- operation 1, slot 40
              intro a42 w42 cc42 cv42 hN42 hcl42 hR42 hlt42 hvo42 hbs42 hdp42
              have hR42 : w34.grownBy w42 u.ownBlock := hR42
              have hO20_o := hO20
              have z_w42 := hR42.size
              have hb := below_stepO hb hO20 hR42 hb.size (by omega)
              have hvq := hvq.keepO hO20 hR42 (by omega)
              have hB31 := hB31.keep hR42 (fun hh => ne_b29_u hh.symm)
              have q42_7 : a42.tmps.getD 7 undef = (ptr b29 0) := (hbs42 7 rfl).trans (sl_hit hN19 rfl)
              clear hbs42 hdp42
              refine op_loadA (cs := [(Value.int .i64 (takeV bq).1.k), (Value.int .i64 (takeV bq).1.n), (Value.string (bs (takeV bq).1.s))]) agg50 rfl (ev_base hN42 rfl q42_7) (fun j u hu => by rw [Nat.zero_add]; exact hB31.cell hu) ?_
              exact obNc_end rfl rfl ((grown_refl _ _))
            · -- operation 2, slot 41
              intro a43 w43 cc43 cv43 hN43 hcl43 hR43 hlt43 hvo43 hbs43 hdp43
              have hR43 : w34.grownBy w43 u.ownBlock := hR43
              have hO20_o := hO20
              have z_w43 := hR43.size
              have hb := below_stepO hb hO20 hR43 hb.size (by omega)
              have hvq := hvq.keepO hO20 hR43 (by omega)
              have hB31 := hB31.keep hR43 (fun hh => ne_b29_u hh.symm)
              have q43_40 : a43.tmps.getD 40 undef = (Value.agg #[(Value.int .i64 (takeV bq).1.k), (Value.int .i64 (takeV bq).1.n), (Value.string (bs (takeV bq).1.s))]) := hdp43 1 _ 40 (by kernel_rfl) rfl rfl
              clear hbs43 hdp43
              refine op_bslice (e := 50) (pv := [(0, (Value.agg #[(Value.int .i64 (takeV bq).1.k), (Value.int .i64 (takeV bq).1.n), (Value.string (bs (takeV bq).1.s))]))]) (cs := [(Value.int .i64 (takeV bq).1.k), (Value.int .i64 (takeV bq).1.n), (Value.string (bs (takeV bq).1.s))]) ⟨rfl, (ev_base hN43 rfl q43_40), trivial⟩ (by kernel_rfl) ?_
              intro w44 b45 lo_b45 hi_b45 hB47 E46
              have z_w44 := E46.size
              have hvq := hvq.keep0 E46
              have hB31 := hB31.keep0 E46
              have hb := below_step0 hb E46 hb.size
              exact obNc_end rfl ⟨b45, rfl, (by omega), hB47, (fun hh => by have := hlt43 _ hh; omega)⟩ (E46)
            · -- operation 4, slot 43
              intro a48 w48 cc48 cv48 hN48 hcl48 hR48 hlt48 hvo48 hbs48 hdp48
              have hR48 : w34.grownBy w48 u.ownBlock := hR48
              have hO20_o := hO20
              have q48_0 : a48.tmps.getD 0 undef = bu := (hbs48 0 (by kernel_rfl)).trans (sl_base hN19 rfl s19_0)
              clear hbs48 hdp48
              refine op_move (ev_base hN48 rfl q48_0) ?_
              exact obNc_end rfl rfl ((grown_refl _ _))
            · -- operation 5, slot 44
              intro a49 w49 cc49 cv49 hN49 hcl49 hR49 hlt49 hvo49 hbs49 hdp49
              have hR49 : w34.grownBy w49 u.ownBlock := hR49
              have hO20_o := hO20
              have q49_8 : a49.tmps.getD 8 undef = (Value.int .i64 (takeV bq).2.1) := (hbs49 8 rfl).trans (sl_hit hN19 rfl)
              clear hbs49 hdp49
              refine op_move (ev_base hN49 rfl q49_8) ?_
              exact obNc_end rfl rfl ((grown_refl _ _))
            · -- operation 6, slot 45
              intro a50 w50 cc50 cv50 hN50 hcl50 hR50 hlt50 hvo50 hbs50 hdp50
              have hR50 : w34.grownBy w50 u.ownBlock := hR50
              have hO20_o := hO20
              have z_w50 := hR50.size
              have hb := below_stepO hb hO20 hR50 hb.size (by omega)
              have hvq := hvq.keepO hO20 hR50 (by omega)
              have hB31 := hB31.keep hR50 (fun hh => ne_b29_u hh.symm)
              have q50_43 : a50.tmps.getD 43 undef = bu := hdp50 4 _ 43 (by kernel_rfl) rfl rfl
              have q50_44 : a50.tmps.getD 44 undef = (Value.int .i64 (takeV bq).2.1) := hdp50 5 _ 44 (by kernel_rfl) rfl rfl
              clear hbs50 hdp50
              refine op_slice_rd (lo := (takeV bq).2.1.toNat) (hi := bq.length) slt22 (ev_base hN50 rfl q50_43) hvq (.inr ⟨_, _, rfl, (ev_base hN50 rfl q50_44).trans (congrArg (Value.int _) (by omega))⟩) (.inl ⟨rfl, rfl⟩) (by omega) (by omega) ?_
              intro v51 hR52
              have hR52 : RdC w50 0 w.heap.size 1 v51 (bq.length - (takeV bq).2.1.toNat) (((bq.drop (takeV bq).2.1.toNat)).map u8v) := by simpa [List.map_drop, List.take_of_length_le] using hR52
              exact obNc_end rfl ⟨v51, rfl, hR52, ⟨by omega, ge_of hvo50 (fun k hk => by have := (hO20_o.lt k hk).1; omega) (by omega)⟩⟩ ((grown_refl _ _))
            · -- operation 7, slot 5
              intro a53 w53 cc53 cv53 hN53 hcl53 hR53 hlt53 hvo53 hbs53 hdp53
              have hR53 : w34.grownBy w53 u.ownBlock := hR53
              have hO20_o := hO20
              have hch53 : chP 0 cc53 cv53 (a53.tmps.getD 42 undef) w53 := hdp53 3 _ 42 (by kernel_rfl) rfl rfl
              have hcc53 : cc53 = 1 := Nat.le_antisymm hcl53 hch53.1
              have q53_42 := hch53.2 hcc53
              clear hbs53 hdp53
              refine op_assign (ev_base hN53 rfl q53_42) ?_
              exact obNc_end rfl ⟨by omega, fun _ => rfl⟩ ((grown_refl _ _))
            · -- operation 8, slot 0
              intro a54 w54 cc54 cv54 hN54 hcl54 hR54 hlt54 hvo54 hbs54 hdp54
              have hR54 : w34.grownBy w54 u.ownBlock := hR54
              have hO20_o := hO20
              obtain ⟨v49, q54_45, hR50, xq54_45_0⟩ := hdp54 6 _ 45 (by kernel_rfl) rfl rfl
              have hR50 : RdC w54 0 w.heap.size 1 v49 (bq.length - (takeV bq).2.1.toNat) (((bq.drop (takeV bq).2.1.toNat)).map u8v) := hR50
              clear hbs54 hdp54
              refine op_assign (ev_base hN54 rfl q54_45) ?_
              exact obNc_end rfl ⟨v49, rfl, hR50, xq54_45_0⟩ ((grown_refl _ _))
            · -- operation 3, slot 42
              intro o_ ho_; obtain rfl := Option.some.inj ho_; intro a55 w55 cv55 hN55 hR55 hcv055 hbs55 hdp55 hC55
              have hR55 : w34.grownBy w55 u.ownBlock := hR55
              have hO20_o := hO20
              have z_w55 := hR55.size
              have hb := below_stepO hb hO20 hR55 hb.size (by omega)
              have hvq := hvq.keepO hO20 hR55 (by omega)
              have hB31 := hB31.keep hR55 (fun hh => ne_b29_u hh.symm)
              have hcv55 : u = cv55 := (hcv055 rfl).symm
              subst hcv55
              have hC55 : Own w55 w.heap.size 50 3 u acc.length (acc.flatMap cellsV) := hC55
              have q55_39 : a55.tmps.getD 39 undef = u := hdp55 0 _ 39 (by kernel_rfl) rfl rfl
              obtain ⟨b40, q55_41, lo55_0, hB42, xq55_41_0⟩ := hdp55 2 _ 41 (by kernel_rfl) rfl rfl
              have hB42 : Bx w55 b40 50 [(Value.int .i64 (takeV bq).1.k), (Value.int .i64 (takeV bq).1.n), (Value.string (bs (takeV bq).1.s))] := hB42
              clear hbs55 hdp55
              have hP61 := hC55
              refine op_append slt65 (ev_base hN55 rfl q55_39) hP61 (ev_base hN55 rfl q55_41) (Src.ofRd Try.underlying65 (by decide) (RdC.ofBx (sz := 3) (n := 1) hB42 rfl (by decide)) (by simp [Value.oneCell', u8v])) (by unfold maxLen; omega) (by omega) hb.size ?_
              intro v56 w57 hO59 E58 hm60
              have z_w57 := E58.size
              have hvq := hvq.keepO hP61 E58 (by omega)
              have hB31 := hB31.keep E58 (fun hh => ne_b29_u hh.symm)
              have hB42 := hB42.keep E58 (fun hh => xq55_41_0 hh.symm)
              have hb := below_stepO hb hP61 E58 hb.size (by omega)
              have hO59 : Own w57 w.heap.size 50 3 v56 (acc.length + 1) (((acc ++ [(takeV bq).1])).flatMap cellsV) := by simpa [u8v, cellsV] using hO59
              have ne_b29_v56 : v56.ownBlock ≠ some b29 := ne_step (w1 := w55) ⟨E58, hm60⟩ (by omega) ne_b29_u
              exact obCc_end rfl rfl (chP_now (w := w57)) hO59 ⟨E58, hm60⟩
            · -- behind the region
              intro a62 w62 v43 hN62 hd62 hbs62 hph62 hC62 E62 hm62
              have hd62 := hd62.trans hd19
              obtain ⟨y39, s62_0, hy40, xq62_0_0⟩ := hph62 8 _ 0 rfl rfl
              have hy40 : RdC w62 0 w.heap.size 1 y39 (bq.length - (takeV bq).2.1.toNat) (((bq.drop (takeV bq).2.1.toNat)).map u8v) := hy40
              have s62_4 : a62.tmps.getD 4 undef = (Value.int .i64 ((bl.getD 0 0).toNat : Int)) := (hbs62 4 rfl).trans (sl_base hN19 rfl s19_4)
              have s62_5 : a62.tmps.getD 5 undef = v43 := (show chP 0 1 v43 (a62.tmps.getD 5 undef) w62 from hph62 7 _ 5 rfl rfl).2 rfl
              have s62_6 : a62.tmps.getD 6 undef = (Value.int .i64 ((i : Nat) : Int)) := (hbs62 6 rfl).trans (sl_base hN19 rfl s19_6)
              have s62_7 : a62.tmps.getD 7 undef = (ptr b29 0) := (hbs62 7 rfl).trans (sl_hit hN19 rfl)
              have s62_8 : a62.tmps.getD 8 undef = (Value.int .i64 (takeV bq).2.1) := (hbs62 8 rfl).trans (sl_hit hN19 rfl)
              have s62_9 : a62.tmps.getD 9 undef = (Value.int .i64 (takeV bq).2.2) := (hbs62 9 rfl).trans (sl_hit hN19 rfl)
              have s62_10 : a62.tmps.getD 10 undef = v := (hbs62 10 rfl).trans (sl_base hN19 rfl s19_10)
              have s62_11 : a62.tmps.getD 11 undef = (Value.int .i64 ((bl.length : Nat) : Int)) := (hbs62 11 rfl).trans (sl_base hN19 rfl s19_11)
              have s62_12 : a62.tmps.getD 12 undef = (Value.bool false) := (hbs62 12 rfl).trans (sl_base hN19 rfl s19_12)
              have s62_13 : a62.tmps.getD 13 undef = v := (hbs62 13 rfl).trans (sl_base hN19 rfl s19_13)
              have s62_14 : a62.tmps.getD 14 undef = (ptr b6 o7) := (hbs62 14 rfl).trans (sl_base hN19 rfl s19_14)
              have s62_15 : a62.tmps.getD 15 undef = (Value.int .u8 ((bl.getD 0 0).toNat : Int)) := (hbs62 15 rfl).trans (sl_base hN19 rfl s19_15)
              have s62_16 : a62.tmps.getD 16 undef = (Value.int .i64 ((bl.getD 0 0).toNat : Int)) := (hbs62 16 rfl).trans (sl_base hN19 rfl s19_16)
              have s62_17 : a62.tmps.getD 17 undef = (Value.int .i64 ((bl.getD 0 0).toNat : Int)) := (hbs62 17 rfl).trans (sl_base hN19 rfl s19_17)
              have s62_18 : a62.tmps.getD 18 undef = (Value.bool false) := (hbs62 18 rfl).trans (sl_base hN19 rfl s19_18)
              have s62_19 : a62.tmps.getD 19 undef = (Value.bool false) := (hbs62 19 rfl).trans (sl_base hN19 rfl s19_19)
              have s62_20 : a62.tmps.getD 20 undef = (Value.int .i64 ((bl.getD 0 0).toNat : Int)) := (hbs62 20 rfl).trans (sl_base hN19 rfl s19_20)
              have s62_21 : a62.tmps.getD 21 undef = (Value.bool false) := (hbs62 21 rfl).trans (sl_base hN19 rfl s19_21)
              have s62_22 : a62.tmps.getD 22 undef = (Value.bool false) := (hbs62 22 rfl).trans (sl_base hN19 rfl s19_22)
              have s62_23 : a62.tmps.getD 23 undef = v := (hbs62 23 rfl).trans (sl_base hN19 rfl s19_23)
              have s62_24 : a62.tmps.getD 24 undef = v14 := (hbs62 24 rfl).trans (sl_base hN19 rfl s19_24)
              have s62_25 : a62.tmps.getD 25 undef = (Value.int .i64 ((i : Nat) : Int)) := (hbs62 25 rfl).trans (sl_hit hN19 rfl)
              have s62_26 : a62.tmps.getD 26 undef = (Value.int .i64 ((bl.getD 0 0).toNat : Int)) := (hbs62 26 rfl).trans (sl_hit hN19 rfl)
              have s62_27 : a62.tmps.getD 27 undef = (Value.bool true) := (hbs62 27 rfl).trans (sl_hit hN19 rfl)
              have s62_30 : a62.tmps.getD 30 undef = (Value.tuple #[(Value.agg #[(Value.int .i64 (takeV bq).1.k), (Value.int .i64 (takeV bq).1.n), (Value.string (bs (takeV bq).1.s))]), (Value.int .i64 (takeV bq).2.1), (Value.int .i64 (takeV bq).2.2)]) := (hbs62 30 rfl).trans (sl_hit hN19 rfl)
              have s62_31 : a62.tmps.getD 31 undef = bu := (hbs62 31 rfl).trans (sl_hit hN19 rfl)
              have s62_32 : a62.tmps.getD 32 undef = (Value.tuple #[(Value.agg #[(Value.int .i64 (takeV bq).1.k), (Value.int .i64 (takeV bq).1.n), (Value.string (bs (takeV bq).1.s))]), (Value.int .i64 (takeV bq).2.1), (Value.int .i64 (takeV bq).2.2)]) := (hbs62 32 rfl).trans (sl_hit hN19 rfl)
              have s62_33 : a62.tmps.getD 33 undef = (Value.agg #[(Value.int .i64 (takeV bq).1.k), (Value.int .i64 (takeV bq).1.n), (Value.string (bs (takeV bq).1.s))]) := (hbs62 33 rfl).trans (sl_hit hN19 rfl)
              have s62_34 : a62.tmps.getD 34 undef = (Value.int .i64 (takeV bq).2.1) := (hbs62 34 rfl).trans (sl_hit hN19 rfl)
              have s62_35 : a62.tmps.getD 35 undef = (Value.int .i64 (takeV bq).2.2) := (hbs62 35 rfl).trans (sl_hit hN19 rfl)
              have s62_36 : a62.tmps.getD 36 undef = (Value.int .i64 (takeV bq).2.2) := (hbs62 36 rfl).trans (sl_hit hN19 rfl)
              have s62_37 : a62.tmps.getD 37 undef = (Value.bool false) := (hbs62 37 rfl).trans (sl_hit hN19 rfl)
              have s62_39 : a62.tmps.getD 39 undef = u := hph62 0 _ 39 rfl rfl
              have s62_40 : a62.tmps.getD 40 undef = (Value.agg #[(Value.int .i64 (takeV bq).1.k), (Value.int .i64 (takeV bq).1.n), (Value.string (bs (takeV bq).1.s))]) := hph62 1 _ 40 rfl rfl
              obtain ⟨b40, s62_41, l62_0, hB42, xq62_41_0⟩ := hph62 2 _ 41 rfl rfl
              have hB42 : Bx w62 b40 50 [(Value.int .i64 (takeV bq).1.k), (Value.int .i64 (takeV bq).1.n), (Value.string (bs (takeV bq).1.s))] := hB42
              have s62_42 : a62.tmps.getD 42 undef = v43 := (show chP 0 1 v43 (a62.tmps.getD 42 undef) w62 from hph62 3 _ 42 rfl rfl).2 rfl
              have s62_43 : a62.tmps.getD 43 undef = bu := hph62 4 _ 43 rfl rfl
              have s62_44 : a62.tmps.getD 44 undef = (Value.int .i64 (takeV bq).2.1) := hph62 5 _ 44 rfl rfl
              obtain ⟨v49, s62_45, hR50, xq62_45_0⟩ := hph62 6 _ 45 rfl rfl
              have hR50 : RdC w62 0 w.heap.size 1 v49 (bq.length - (takeV bq).2.1.toNat) (((bq.drop (takeV bq).2.1.toNat)).map u8v) := hR50
              clear hbs62 hph62
              have E62 : w34.grownBy w62 u.ownBlock := E62
              have hC62 : Own w62 w.heap.size 50 3 v43 (acc.length + 1) (((acc ++ [(takeV bq).1])).flatMap cellsV) := hC62
              have z_w62 := E62.size
              have hvq := hvq.keepO hO20 E62 (by omega)
              have hB31 := hB31.keep E62 (fun hh => ne_b29_u hh.symm)
              have hb := below_stepO hb hO20 E62 hb.size (by omega)
              refine hK23 _ _ ?_
              refine one_reg ?_
              refine op_move (ev_base hN62 rfl s62_6) ?_
              refine op_add (ev_hit hN62 rfl) rfl (add64 (by omega)) ?_
              refine op_assign (ev_hit hN62 rfl) ?_
              refine reg_nil ?_
              -- round 12F 18F 21F 27T 37F
              exact loop_next _ hN62 hd62 ⟨i + 1, _, _, _, _, rfl, (sl_base hN62 rfl s62_4), (sl_base hN62 rfl s62_10), (sl_base hN62 rfl s62_11), (sl_base hN62 rfl s62_12), (sl_base hN62 rfl s62_13), (sl_base hN62 rfl s62_14), (sl_base hN62 rfl s62_15), (sl_base hN62 rfl s62_16), (sl_base hN62 rfl s62_17), (sl_base hN62 rfl s62_18), (sl_base hN62 rfl s62_19), (sl_base hN62 rfl s62_20), (sl_base hN62 rfl s62_21), (sl_base hN62 rfl s62_22), (sl_base hN62 rfl s62_23), (sl_base hN62 rfl s62_24), (sl_hit hN62 rfl).trans (congrArg (Value.int .i64) (by omega)), (sl_base hN62 rfl s62_5), (sl_base hN62 rfl s62_0), (by omega), (by simp; omega), (by simp; omega), (hm.trans (many_step (by omega) (by omega))), hb, (hy40.cast (by simp) rfl), (hC62.cast (by simp) (by simp [cellsV]))⟩ (by omega)
        · -- 27 False
          refine reg_nil ?_
          refine hK22 _ _ ?_
          refine wp_cond_false (ev_hit hN19 rfl) ?_
          refine wp_exit (then_exit (then_exit (blk_hit ?_)))
          refine hK17 _ _ ?_
          refine seq_any fun K63 hK63 => ?_
          refine seq_any fun K64 hK64 => ?_
          refine one_reg ?_
          refine op_move (ev_base hN19 rfl s19_0) ?_
          refine op_len_rd Try.underlying22 (ev_hit hN19 rfl) hvq ?_
          refine op_gtr (ev_hit hN19 rfl) rfl (fun c48 => ?_) (fun c48 => ?_)
          · -- 48 True
            refine reg_nil ?_
            refine hK64 _ _ ?_
            refine wp_cond_true (ev_hit hN19 rfl) ?_
            refine seq_any fun K65 hK65 => ?_
            refine one_reg ?_
            refine op_assign rfl ?_
            refine op_assign rfl ?_
            refine reg_nil ?_
            refine hK65 _ _ ?_
            refine wp_ret (then_ret ( ?_))
            refine ret2 rfl hd19 (ev_hit hN19 rfl) (ev_hit hN19 rfl) ⟨_, rfl, ?_⟩
            -- path 12F 18F 21F 27F 48T
            have e0 : (bl.getD 0 0).toNat - i = 0 := by omega
            have hm2 : (manyA [] (bl.getD 0 0).toNat (bl.drop 1)) = (acc, bq, 0) := by rw [hm, e0]; rfl
            have e : takeR bl = ([], 3) := by rw [takeR, if_neg (by omega), if_neg (by omega), hm2, if_neg (by simp), if_pos (by simp only; omega)]
            exact ⟨hb, _, by rw [e]; rfl, by rw [e]; exact Own.nil _ _ _ _⟩
          · -- 48 False
            refine reg_nil ?_
            refine hK64 _ _ ?_
            refine wp_cond_false (ev_hit hN19 rfl) ?_
            refine wp_skip ?_
            refine hK63 _ _ ?_
            refine seq_any fun K66 hK66 => ?_
            refine one_reg ?_
            refine op_move (ev_base hN19 rfl s19_5) ?_
            refine op_assign (ev_hit hN19 rfl) ?_
            refine op_assign rfl ?_
            refine reg_nil ?_
            refine hK66 _ _ ?_
            refine wp_ret ?_
            refine ret2 rfl hd19 (ev_hit hN19 rfl) (ev_hit hN19 rfl) ⟨_, rfl, ?_⟩
            -- path 12F 18F 21F 27F 48F
            have e0 : (bl.getD 0 0).toNat - i = 0 := by omega
            have hm2 : (manyA [] (bl.getD 0 0).toNat (bl.drop 1)) = (acc, bq, 0) := by rw [hm, e0]; rfl
            have e : takeR bl = (acc, 0) := by rw [takeR, if_neg (by omega), if_neg (by omega), hm2, if_neg (by simp), if_neg (by simp only; omega)]
            exact ⟨hb, _, by rw [e]; rfl, by rw [e]; exact hO20⟩

end Go.Proofs.Ytkkongnmcfdioaa
