/- Walks, written by a program: what each function of the translation hands back. -/
import Derived.Test.YtkkongnmcfdioaaV6
namespace Go.Proofs.Ytkkongnmcfdioaa
open Go.Gx Go.RowKit
attribute [local irreducible] wpList Code.wp Calls

theorem Take_ret (bl : List UInt8) (v : Value) (w : World) (hl : bl.length ≤ 1000000000000) (hv : RdC w 0 w.heap.size 1 v bl.length (bl.map u8v)) : Ret Try.prog 40 #[v] w (fun v' w' => Below w.heap.size w w' ∧ v' = (Value.tuple #[(Value.agg #[(Value.int .i64 (takeV bl).1.k), (Value.int .i64 (takeV bl).1.n), (Value.string (bs (takeV bl).1.s))]), (Value.int .i64 (takeV bl).2.1), (Value.int .i64 (takeV bl).2.2)])) := by
  have hb := Below.refl w.heap.size w
  refine enter (N := 47) Try.func40 rfl rfl (by simp) fun a0 hN hd hA => ?_
  have s0 : a0.tmps.getD 0 undef = v := hA 0 (by simp)
  clear hA
  refine seq_any fun K386 hK386 => ?_
  refine one_reg ?_
  refine op_alloc (cs := [(Value.int .i64 0), (Value.int .i64 0), (Value.string (bs []))]) zero50 rfl ?_
  intro w387 b388 lo_b388 hi_b388 hB390 E389
  have z_w387 := E389.size
  have hv := hv.keep0 E389
  have hb := below_step0 hb E389 hb.size
  refine op_assign rfl ?_
  refine op_assign rfl ?_
  refine reg_nil ?_
  refine hK386 _ _ ?_
  refine seq_any fun K391 hK391 => ?_
  refine seq_any fun K392 hK392 => ?_
  refine one_reg ?_
  refine op_move (ev_base hN rfl s0) ?_
  refine op_len_rd Try.underlying22 (ev_hit hN rfl) hv ?_
  refine op_eql (ev_hit hN rfl) rfl (fun c10 => ?_) (fun c10 => ?_)
  · -- 10 True
    refine reg_nil ?_
    refine hK392 _ _ ?_
    refine wp_cond_true (ev_hit hN rfl) ?_
    refine seq_any fun K393 hK393 => ?_
    refine one_reg ?_
    refine op_loadA (cs := [(Value.int .i64 0), (Value.int .i64 0), (Value.string (bs []))]) agg50 rfl (ev_hit hN rfl) (fun j u hu => by rw [Nat.zero_add]; exact hB390.cell hu) ?_
    have hB390_old := hB390
    refine op_store (vs := [(Value.int .i64 0), (Value.int .i64 0), (Value.string (bs []))]) (cs' := [(Value.int .i64 0), (Value.int .i64 0), (Value.string (bs []))]) size50 (ev_hit hN rfl) (ev_hit hN rfl) rfl rfl rfl hB390 (Nat.le_of_ble_eq_true rfl) rfl ?_
    intro w396 hB390 E397
    have z_w396 := E397.size
    have hv := hv.keep E397 (fun k hk => .inr (by simp at hk; omega))
    have hb := below_step1 hb E397 hb.size (by omega)
    refine op_assign rfl ?_
    refine op_assign rfl ?_
    refine reg_nil ?_
    refine hK393 _ _ ?_
    refine wp_ret (then_ret ( ?_))
    refine retN (rs := [.cell 2 50, .tmp 3, .tmp 4]) (vs := [(Value.agg #[(Value.int .i64 0), (Value.int .i64 0), (Value.string (bs []))]), (Value.int .i64 0), (Value.int .i64 2)]) rfl hd ⟨⟨_, (ev_hit hN rfl), run_loadA (cs := [(Value.int .i64 0), (Value.int .i64 0), (Value.string (bs []))]) agg50 rfl (fun j u hu => by rw [Nat.zero_add]; exact hB390.cell hu)⟩, ⟨(ev_hit hN rfl), ⟨(ev_hit hN rfl), trivial⟩⟩⟩ rfl ⟨_, rfl, ?_⟩
    -- path 10T
    have hq : takeV bl = (V0, 0, 2) := take_lo (List.length_eq_zero_iff.1 (by omega))
    rw [hq]
    exact ⟨hb, rfl⟩
  · -- 10 False
    refine reg_nil ?_
    refine hK392 _ _ ?_
    refine wp_cond_false (ev_hit hN rfl) ?_
    refine wp_skip ?_
    refine hK391 _ _ ?_
    refine seq_any fun K398 hK398 => ?_
    refine seq_any fun K399 hK399 => ?_
    refine one_reg ?_
    refine op_move (ev_base hN rfl s0) ?_
    refine op_index_rd slt22 (ev_hit hN rfl) hv rfl (by omega) (by omega) ?_
    intro b400 o401 _ _ hc402
    refine op_load1 (v := (Value.int .u8 ((bl.getD 0 0).toNat : Int))) one5 (ev_hit hN rfl) (by have := hc402 0 (Value.int .u8 ((bl.getD 0 0).toNat : Int)) (by decide) (el_u8 (i := 0) (by omega) (by omega)); simpa using this) ?_
    refine reg_nil ?_
    refine hK399 _ _ ?_
    refine wp_block ?_
    refine seq_any fun K403 hK403 => ?_
    refine one_reg ?_
    refine op_eql (ev_hit hN rfl) rfl (fun c16 => ?_) (fun c16 => ?_)
    · -- 16 True
      refine op_assign (ev_hit hN rfl) ?_
      refine reg_nil ?_
      refine hK403 _ _ ?_
      refine wp_cond_true (ev_hit hN rfl) ?_
      refine seq_any fun K404 hK404 => ?_
      refine seq_any fun K405 hK405 => ?_
      refine one_reg ?_
      refine op_move (ev_base hN rfl s0) ?_
      refine op_len_rd Try.underlying22 (ev_hit hN rfl) hv ?_
      refine op_lss (ev_hit hN rfl) rfl (fun c19 => ?_) (fun c19 => ?_)
      · -- 19 True
        refine reg_nil ?_
        refine hK405 _ _ ?_
        refine wp_cond_true (ev_hit hN rfl) ?_
        refine seq_any fun K406 hK406 => ?_
        refine one_reg ?_
        refine op_loadA (cs := [(Value.int .i64 0), (Value.int .i64 0), (Value.string (bs []))]) agg50 rfl (ev_hit hN rfl) (fun j u hu => by rw [Nat.zero_add]; exact hB390.cell hu) ?_
        have hB390_old := hB390
        refine op_store (vs := [(Value.int .i64 0), (Value.int .i64 0), (Value.string (bs []))]) (cs' := [(Value.int .i64 0), (Value.int .i64 0), (Value.string (bs []))]) size50 (ev_hit hN rfl) (ev_hit hN rfl) rfl rfl rfl hB390 (Nat.le_of_ble_eq_true rfl) rfl ?_
        intro w409 hB390 E410
        have z_w409 := E410.size
        have hv := hv.keep E410 (fun k hk => .inr (by simp at hk; omega))
        have hb := below_step1 hb E410 hb.size (by omega)
        refine op_assign rfl ?_
        refine op_assign rfl ?_
        refine reg_nil ?_
        refine hK406 _ _ ?_
        refine wp_ret (then_ret (blk_ret (then_ret ( ?_))))
        refine retN (rs := [.cell 2 50, .tmp 3, .tmp 4]) (vs := [(Value.agg #[(Value.int .i64 0), (Value.int .i64 0), (Value.string (bs []))]), (Value.int .i64 0), (Value.int .i64 2)]) rfl hd ⟨⟨_, (ev_hit hN rfl), run_loadA (cs := [(Value.int .i64 0), (Value.int .i64 0), (Value.string (bs []))]) agg50 rfl (fun j u hu => by rw [Nat.zero_add]; exact hB390.cell hu)⟩, ⟨(ev_hit hN rfl), ⟨(ev_hit hN rfl), trivial⟩⟩⟩ rfl ⟨_, rfl, ?_⟩
        -- path 10F 16T 19T
        have hq : takeV bl = (V0, 0, 2) := by rw [take_cons (by omega), if_pos (by omega), if_pos (by omega)]
        rw [hq]
        exact ⟨hb, rfl⟩
      · -- 19 False
        refine reg_nil ?_
        refine hK405 _ _ ?_
        refine wp_cond_false (ev_hit hN rfl) ?_
        refine wp_skip ?_
        refine hK404 _ _ ?_
        refine seq_any fun K411 hK411 => ?_
        refine one_reg ?_
        refine op_assign rfl ?_
        refine reg_nil ?_
        refine hK411 _ _ ?_
        refine seq_any fun K412 hK412 => ?_
        refine seq_any fun K413 hK413 => ?_
        refine one_reg ?_
        refine op_move (ev_base hN rfl s0) ?_
        refine op_slice_rd (lo := 1) (hi := 9) slt22 (ev_hit hN rfl) hv (.inr ⟨_, _, rfl, rfl⟩) (.inr ⟨_, _, rfl, rfl⟩) (by omega) (by omega) ?_
        intro v414 hR415
        have hR415 : RdC w387 0 w.heap.size 1 v414 8 ((((bl.drop 1).take 8)).map u8v) := by simpa [List.map_drop, List.map_take] using hR415
        refine op_len_rd Try.underlying22 (ev_hit hN rfl) hR415 ?_
        have hL8 : ((bl.drop 1).take 8).length = 8 := by simp; omega
        refine op_move rfl ?_
        refine reg_nil ?_
        refine hK413 _ _ ?_
        refine wp_block ?_
        refine loop_m (fun m a w' => ∃ (i : Nat), m = 8 - i ∧ (a.tmps.getD 0 undef = v) ∧ (a.tmps.getD 2 undef = (ptr b388 0)) ∧ (a.tmps.getD 3 undef = (Value.int .i64 0)) ∧ (a.tmps.getD 4 undef = (Value.int .i64 0)) ∧ (a.tmps.getD 8 undef = v) ∧ (a.tmps.getD 9 undef = (Value.int .i64 ((bl.length : Nat) : Int))) ∧ (a.tmps.getD 10 undef = (Value.bool false)) ∧ (a.tmps.getD 12 undef = v) ∧ (a.tmps.getD 13 undef = (ptr b400 o401)) ∧ (a.tmps.getD 14 undef = (Value.int .u8 ((bl.getD 0 0).toNat : Int))) ∧ (a.tmps.getD 15 undef = (Value.bool true)) ∧ (a.tmps.getD 16 undef = (Value.bool true)) ∧ (a.tmps.getD 17 undef = v) ∧ (a.tmps.getD 18 undef = (Value.int .i64 ((bl.length : Nat) : Int))) ∧ (a.tmps.getD 19 undef = (Value.bool false)) ∧ (a.tmps.getD 21 undef = v) ∧ (a.tmps.getD 22 undef = v414) ∧ (a.tmps.getD 23 undef = (Value.int .i64 8)) ∧ (a.tmps.getD 24 undef = (Value.int .i64 ((i : Nat) : Int))) ∧ (a.tmps.getD 5 undef = (Value.int .u64 ((ofBe (((bl.drop 1).take 8).take i) : Nat) : Int))) ∧ (i ≤ 8) ∧ w387 = w') _ hN hd ⟨0, rfl, (sl_base hN rfl s0), (sl_hit hN rfl), (sl_hit hN rfl), (sl_hit hN rfl), (sl_hit hN rfl), (sl_hit hN rfl), (sl_hit hN rfl), (sl_hit hN rfl), (sl_hit hN rfl), (sl_hit hN rfl), (sl_hit hN rfl), (sl_hit hN rfl), (sl_hit hN rfl), (sl_hit hN rfl), (sl_hit hN rfl), (sl_hit hN rfl), (sl_hit hN rfl), (sl_hit hN rfl), (sl_hit hN rfl), (sl_hit hN rfl), Nat.zero_le _, rfl⟩ ?_
        rintro _ a416 _ hN416 hd416 ⟨i, rfl, s416_0, s416_2, s416_3, s416_4, s416_8, s416_9, s416_10, s416_12, s416_13, s416_14, s416_15, s416_16, s416_17, s416_18, s416_19, s416_21, s416_22, s416_23, s416_24, s416_5, hi, rfl⟩
        refine seq_any fun K417 hK417 => ?_
        refine one_reg ?_
        refine op_lss (ev_base hN416 rfl s416_24) (ev_base hN416 rfl s416_23) (fun c25 => ?_) (fun c25 => ?_)
        · -- 25 True
          refine reg_nil ?_
          refine hK417 _ _ ?_
          refine seq_any fun K418 hK418 => ?_
          refine wp_cond_true (ev_hit hN416 rfl) ?_
          refine wp_skip ?_
          refine hK418 _ _ ?_
          refine seq_any fun K419 hK419 => ?_
          refine wp_block ?_
          refine seq_any fun K420 hK420 => ?_
          refine one_reg ?_
          refine op_index_rd slt22 (ev_base hN416 rfl s416_22) hR415 (ev_base hN416 rfl s416_24) (by omega) (by omega) ?_
          intro b421 o422 _ _ hc423
          refine op_load1 (v := (Value.int .u8 ((((bl.drop 1).take 8).getD i 0).toNat : Int))) one5 (ev_hit hN416 rfl) (by have := hc423 0 (Value.int .u8 ((((bl.drop 1).take 8).getD i 0).toNat : Int)) (by decide) (el_u8 (i := i) (by omega) (by omega)); simpa using this) ?_
          refine op_assign (ev_hit hN416 rfl) ?_
          refine reg_nil ?_
          refine hK420 _ _ ?_
          refine one_reg ?_
          have hsm := ofBe_small (l := ((bl.drop 1).take 8).take i) (by simp; omega)
          refine op_move (ev_base hN416 rfl s416_5) ?_
          refine op_shl (r := (((ofBe (((bl.drop 1).take 8).take i) : Nat) : Int) * 256)) (ev_hit hN416 rfl) rfl (by decide) (shl8 (by omega)) ?_
          refine op_move (ev_hit hN416 rfl) ?_
          refine op_conv (r := ((((bl.drop 1).take 8).getD i 0).toNat : Int)) (ev_hit hN416 rfl) us5 Try.underlying76 (wrap_u64 (u8_rng _)) ?_
          refine op_or (r := (((ofBe (((bl.drop 1).take 8).take i) : Nat) : Int) * 256 + ((((bl.drop 1).take 8).getD i 0).toNat : Int))) (ev_hit hN416 rfl) (ev_hit hN416 rfl) (or_low hsm (UInt8.toNat_lt _)) ?_
          refine op_assign (ev_hit hN416 rfl) ?_
          refine reg_nil ?_
          refine hK419 _ _ ?_
          refine one_reg ?_
          refine op_add (ev_base hN416 rfl s416_24) rfl (add64 (by omega)) ?_
          have hL8 : ((bl.drop 1).take 8).length = 8 := by simp; omega
          refine op_move (ev_hit hN416 rfl) ?_
          refine reg_nil ?_
          -- round 10F 16T 19F 25T
          exact loop_next _ hN416 hd416 ⟨i + 1, rfl, (sl_base hN416 rfl s416_0), (sl_base hN416 rfl s416_2), (sl_base hN416 rfl s416_3), (sl_base hN416 rfl s416_4), (sl_base hN416 rfl s416_8), (sl_base hN416 rfl s416_9), (sl_base hN416 rfl s416_10), (sl_base hN416 rfl s416_12), (sl_base hN416 rfl s416_13), (sl_base hN416 rfl s416_14), (sl_base hN416 rfl s416_15), (sl_base hN416 rfl s416_16), (sl_base hN416 rfl s416_17), (sl_base hN416 rfl s416_18), (sl_base hN416 rfl s416_19), (sl_base hN416 rfl s416_21), (sl_base hN416 rfl s416_22), (sl_base hN416 rfl s416_23), (sl_hit hN416 rfl).trans (congrArg (Value.int .i64) (by omega)), (sl_hit hN416 rfl).trans (congrArg (Value.int .u64) (by rw [take_snoc (l := ((bl.drop 1).take 8)) (i := i) (by omega), ofBe_snoc]; simp)), (by omega), rfl⟩ (by omega)
        · -- 25 False
          refine reg_nil ?_
          refine hK417 _ _ ?_
          refine seq_any fun K424 hK424 => ?_
          refine wp_cond_false (ev_hit hN416 rfl) ?_
          refine wp_exit (then_exit (then_exit (blk_hit ?_)))
          refine hK412 _ _ ?_
          refine seq_any fun K425 hK425 => ?_
          refine one_reg ?_
          have hbig := ofBe_8 (l := ((bl.drop 1).take 8).take i) (by simp; omega)
          refine op_move (ev_base hN416 rfl s416_5) ?_
          refine op_xor (r := (if ofBe (((bl.drop 1).take 8).take i) < 9223372036854775808 then ((ofBe (((bl.drop 1).take 8).take i) : Nat) : Int) + 9223372036854775808 else ((ofBe (((bl.drop 1).take 8).take i) : Nat) : Int) - 9223372036854775808)) (ev_hit hN416 rfl) rfl (xor_high hbig) ?_
          refine op_conv (r := (((ofBe (((bl.drop 1).take 8).take i) : Nat) : Int) - 9223372036854775808)) (ev_hit hN416 rfl) us76 Try.underlying2 (i64_down hbig) ?_
          refine op_build (pv := [(0, (Value.int .i64 1)), (1, (Value.int .i64 (((ofBe (((bl.drop 1).take 8).take i) : Nat) : Int) - 9223372036854775808)))]) (v := (Value.agg #[(Value.int .i64 1), (Value.int .i64 (((ofBe (((bl.drop 1).take 8).take i) : Nat) : Int) - 9223372036854775808)), (Value.string (bs []))])) ⟨rfl, rfl, ⟨rfl, (ev_hit hN416 rfl), trivial⟩⟩ (by kernel_rfl) ?_
          have hB390_old := hB390
          refine op_store (vs := [(Value.int .i64 1), (Value.int .i64 (((ofBe (((bl.drop 1).take 8).take i) : Nat) : Int) - 9223372036854775808)), (Value.string (bs []))]) (cs' := [(Value.int .i64 1), (Value.int .i64 (((ofBe (((bl.drop 1).take 8).take i) : Nat) : Int) - 9223372036854775808)), (Value.string (bs []))]) size50 (ev_base hN416 rfl s416_2) (ev_hit hN416 rfl) rfl rfl rfl hB390 (Nat.le_of_ble_eq_true rfl) rfl ?_
          intro w428 hB390 E429
          have z_w428 := E429.size
          have hv := hv.keep E429 (fun k hk => .inr (by simp at hk; omega))
          have hR415 := hR415.keep E429 (fun k hk => .inr (by simp at hk; omega))
          have hb := below_step1 hb E429 hb.size (by omega)
          refine op_assign rfl ?_
          refine op_assign rfl ?_
          refine reg_nil ?_
          refine hK425 _ _ ?_
          refine wp_ret (blk_ret (then_ret ( ?_)))
          refine retN (rs := [.cell 2 50, .tmp 3, .tmp 4]) (vs := [(Value.agg #[(Value.int .i64 1), (Value.int .i64 (((ofBe (((bl.drop 1).take 8).take i) : Nat) : Int) - 9223372036854775808)), (Value.string (bs []))]), (Value.int .i64 9), (Value.int .i64 0)]) rfl hd416 ⟨⟨_, (ev_base hN416 rfl s416_2), run_loadA (cs := [(Value.int .i64 1), (Value.int .i64 (((ofBe (((bl.drop 1).take 8).take i) : Nat) : Int) - 9223372036854775808)), (Value.string (bs []))]) agg50 rfl (fun j u hu => by rw [Nat.zero_add]; exact hB390.cell hu)⟩, ⟨(ev_hit hN416 rfl), ⟨(ev_hit hN416 rfl), trivial⟩⟩⟩ rfl ⟨_, rfl, ?_⟩
          -- path 10F 16T 19F 25F
          have h8 : i = 8 := by omega
          have e8 : ((bl.drop 1).take 8).take i = ((bl.drop 1).take 8) := by rw [h8]; try exact List.take_of_length_le (by omega)
          have hq : takeV bl = (⟨1, (ofBe ((bl.drop 1).take 8) : Int) - 9223372036854775808, []⟩, 9, 0) := by rw [take_cons (by omega), if_pos (by omega), if_neg (by omega)]
          rw [hq, e8]
          exact ⟨hb, rfl⟩
    · -- 16 False
      refine op_assign (ev_hit hN rfl) ?_
      refine reg_nil ?_
      refine hK403 _ _ ?_
      refine wp_cond_false (ev_hit hN rfl) ?_
      refine seq_any fun K430 hK430 => ?_
      refine one_reg ?_
      refine op_eql (ev_hit hN rfl) rfl (fun c39 => ?_) (fun c39 => ?_)
      · -- 39 True
        refine op_assign (ev_hit hN rfl) ?_
        refine reg_nil ?_
        refine hK430 _ _ ?_
        refine wp_cond_true (ev_hit hN rfl) ?_
        refine seq_any fun K431 hK431 => ?_
        refine one_reg ?_
        refine op_move (ev_base hN rfl s0) ?_
        refine op_slice_rd (lo := 1) (hi := bl.length) slt22 (ev_hit hN rfl) hv (.inr ⟨_, _, rfl, rfl⟩) (.inl ⟨rfl, rfl⟩) (by omega) (by omega) ?_
        intro v432 hR433
        have hR433 : RdC w387 0 w.heap.size 1 v432 (bl.length - 1) (((bl.drop 1)).map u8v) := by simpa [List.map_drop, List.map_take, List.take_of_length_le] using hR433
        have hq434 : RdC w387 0 w387.heap.size 1 v432 (bl.drop 1).length ((bl.drop 1).map u8v) := by simpa using (hR433.mono (L' := 0) (B' := w387.heap.size) (Nat.zero_le _) (by omega))
        refine op_fn (vs := [v432]) ok72 ⟨(ev_hit hN rfl), trivial⟩ (text_ret (bl.drop 1) v432 _ (by first | assumption | omega | (simp only [List.length_append, List.length_cons, List.length_nil, List.length_drop, List.length_take]; omega) | (dsimp only; omega) | decide | (simp [keyV, be8_len]; done)) hq434) ?_
        rintro _ w435 ⟨E436, rfl⟩
        have E436 := grown_of_below E436
        have z_w435 := E436.size
        have hv := hv.keep0 E436
        have hB390 := hB390.keep0 E436
        have hR433 := hR433.keep0 E436
        have hb := below_step0 hb E436 hb.size
        refine op_extract (ev_hit hN rfl) rfl ?_
        refine op_extract (ev_hit hN rfl) rfl ?_
        refine op_extract (ev_hit hN rfl) rfl ?_
        have hB390_old := hB390
        refine op_store (vs := [(Value.int .i64 (textR (bl.drop 1)).1.k), (Value.int .i64 (textR (bl.drop 1)).1.n), (Value.string (bs (textR (bl.drop 1)).1.s))]) (cs' := [(Value.int .i64 (textR (bl.drop 1)).1.k), (Value.int .i64 (textR (bl.drop 1)).1.n), (Value.string (bs (textR (bl.drop 1)).1.s))]) size50 (ev_hit hN rfl) (ev_hit hN rfl) rfl rfl rfl hB390 (Nat.le_of_ble_eq_true rfl) rfl ?_
        intro w439 hB390 E440
        have z_w439 := E440.size
        have hv := hv.keep E440 (fun k hk => .inr (by simp at hk; omega))
        have hR433 := hR433.keep E440 (fun k hk => .inr (by simp at hk; omega))
        have hb := below_step1 hb E440 hb.size (by omega)
        refine op_assign (ev_hit hN rfl) ?_
        refine op_assign (ev_hit hN rfl) ?_
        refine reg_nil ?_
        refine hK431 _ _ ?_
        refine wp_ret (blk_ret (then_ret ( ?_)))
        refine retN (rs := [.cell 2 50, .tmp 3, .tmp 4]) (vs := [(Value.agg #[(Value.int .i64 (textR (bl.drop 1)).1.k), (Value.int .i64 (textR (bl.drop 1)).1.n), (Value.string (bs (textR (bl.drop 1)).1.s))]), (Value.int .i64 (textR (bl.drop 1)).2.1), (Value.int .i64 (textR (bl.drop 1)).2.2)]) rfl hd ⟨⟨_, (ev_hit hN rfl), run_loadA (cs := [(Value.int .i64 (textR (bl.drop 1)).1.k), (Value.int .i64 (textR (bl.drop 1)).1.n), (Value.string (bs (textR (bl.drop 1)).1.s))]) agg50 rfl (fun j u hu => by rw [Nat.zero_add]; exact hB390.cell hu)⟩, ⟨(ev_hit hN rfl), ⟨(ev_hit hN rfl), trivial⟩⟩⟩ rfl ⟨_, rfl, ?_⟩
        -- path 10F 16F 39T
        have hq : takeV bl = textR (bl.drop 1) := by rw [take_cons (by omega), if_neg (by omega), if_pos (by omega)]
        rw [hq]
        exact ⟨hb, rfl⟩
      · -- 39 False
        refine op_assign (ev_hit hN rfl) ?_
        refine reg_nil ?_
        refine hK430 _ _ ?_
        refine wp_cond_false (ev_hit hN rfl) ?_
        refine wp_skip ?_
        refine hK398 _ _ ?_
        refine seq_any fun K441 hK441 => ?_
        refine one_reg ?_
        refine op_loadA (cs := [(Value.int .i64 0), (Value.int .i64 0), (Value.string (bs []))]) agg50 rfl (ev_hit hN rfl) (fun j u hu => by rw [Nat.zero_add]; exact hB390.cell hu) ?_
        have hB390_old := hB390
        refine op_store (vs := [(Value.int .i64 0), (Value.int .i64 0), (Value.string (bs []))]) (cs' := [(Value.int .i64 0), (Value.int .i64 0), (Value.string (bs []))]) size50 (ev_hit hN rfl) (ev_hit hN rfl) rfl rfl rfl hB390 (Nat.le_of_ble_eq_true rfl) rfl ?_
        intro w444 hB390 E445
        have z_w444 := E445.size
        have hv := hv.keep E445 (fun k hk => .inr (by simp at hk; omega))
        have hb := below_step1 hb E445 hb.size (by omega)
        refine op_assign rfl ?_
        refine op_assign rfl ?_
        refine reg_nil ?_
        refine hK441 _ _ ?_
        refine wp_ret ?_
        refine retN (rs := [.cell 2 50, .tmp 3, .tmp 4]) (vs := [(Value.agg #[(Value.int .i64 0), (Value.int .i64 0), (Value.string (bs []))]), (Value.int .i64 0), (Value.int .i64 3)]) rfl hd ⟨⟨_, (ev_hit hN rfl), run_loadA (cs := [(Value.int .i64 0), (Value.int .i64 0), (Value.string (bs []))]) agg50 rfl (fun j u hu => by rw [Nat.zero_add]; exact hB390.cell hu)⟩, ⟨(ev_hit hN rfl), ⟨(ev_hit hN rfl), trivial⟩⟩⟩ rfl ⟨_, rfl, ?_⟩
        -- path 10F 16F 39F
        have hq : takeV bl = (V0, 0, 3) := by rw [take_cons (by omega), if_neg (by omega), if_neg (by omega)]
        rw [hq]
        exact ⟨hb, rfl⟩

theorem TakeKey_ret (bl : List UInt8) (v : Value) (w : World) (hl : bl.length ≤ 1000000000000) (hv : RdC w 0 w.heap.size 1 v bl.length (bl.map u8v)) : Ret Try.prog 41 #[v] w (fun v' w' => Below w.heap.size w w' ∧ v' = (Value.tuple #[(Value.agg #[(Value.int .i64 (takeV bl).1.k), (Value.int .i64 (takeV bl).1.n), (Value.string (bs (takeV bl).1.s))]), (Value.int .i64 (takeV bl).2.1), (Value.int .i64 (takeV bl).2.2)])) := by
  have hb := Below.refl w.heap.size w
  refine enter (N := 77) Try.func41 rfl rfl (by simp) fun a0 hN hd hA => ?_
  have s0 : a0.tmps.getD 0 undef = v := hA 0 (by simp)
  clear hA
  refine seq_any fun K446 hK446 => ?_
  refine one_reg ?_
  refine op_alloc (cs := [(Value.int .i64 0), (Value.int .i64 0), (Value.string (bs []))]) zero50 rfl ?_
  intro w447 b448 lo_b448 hi_b448 hB450 E449
  have z_w447 := E449.size
  have hv := hv.keep0 E449
  have hb := below_step0 hb E449 hb.size
  refine op_assign rfl ?_
  refine op_assign rfl ?_
  refine reg_nil ?_
  refine hK446 _ _ ?_
  refine seq_any fun K451 hK451 => ?_
  refine seq_any fun K452 hK452 => ?_
  refine one_reg ?_
  refine op_move (ev_base hN rfl s0) ?_
  refine op_len_rd Try.underlying22 (ev_hit hN rfl) hv ?_
  refine op_lss (ev_hit hN rfl) rfl (fun c10 => ?_) (fun c10 => ?_)
  · -- 10 True
    refine reg_nil ?_
    refine hK452 _ _ ?_
    refine wp_cond_true (ev_hit hN rfl) ?_
    refine seq_any fun K453 hK453 => ?_
    refine one_reg ?_
    refine op_build (pv := []) (v := (Value.agg #[(Value.int .i64 0), (Value.int .i64 0), (Value.string (bs []))])) trivial (by kernel_rfl) ?_
    have hB450_old := hB450
    refine op_store (vs := [(Value.int .i64 0), (Value.int .i64 0), (Value.string (bs []))]) (cs' := [(Value.int .i64 0), (Value.int .i64 0), (Value.string (bs []))]) size50 (ev_hit hN rfl) (ev_hit hN rfl) rfl rfl rfl hB450 (Nat.le_of_ble_eq_true rfl) rfl ?_
    intro w456 hB450 E457
    have z_w456 := E457.size
    have hv := hv.keep E457 (fun k hk => .inr (by simp at hk; omega))
    have hb := below_step1 hb E457 hb.size (by omega)
    refine op_assign rfl ?_
    refine op_assign rfl ?_
    refine reg_nil ?_
    refine hK453 _ _ ?_
    refine wp_ret (then_ret ( ?_))
    refine retN (rs := [.cell 2 50, .tmp 3, .tmp 4]) (vs := [(Value.agg #[(Value.int .i64 0), (Value.int .i64 0), (Value.string (bs []))]), (Value.int .i64 0), (Value.int .i64 2)]) rfl hd ⟨⟨_, (ev_hit hN rfl), run_loadA (cs := [(Value.int .i64 0), (Value.int .i64 0), (Value.string (bs []))]) agg50 rfl (fun j u hu => by rw [Nat.zero_add]; exact hB450.cell hu)⟩, ⟨(ev_hit hN rfl), ⟨(ev_hit hN rfl), trivial⟩⟩⟩ rfl ⟨_, rfl, ?_⟩
    -- path 10T
    have hq : takeV bl = (V0, 0, 2) := take_lo (List.length_eq_zero_iff.1 (by omega))
    rw [hq]
    exact ⟨hb, rfl⟩
  · -- 10 False
    refine reg_nil ?_
    refine hK452 _ _ ?_
    refine wp_cond_false (ev_hit hN rfl) ?_
    refine wp_skip ?_
    refine hK451 _ _ ?_
    refine seq_any fun K458 hK458 => ?_
    refine seq_any fun K459 hK459 => ?_
    refine one_reg ?_
    refine op_move (ev_base hN rfl s0) ?_
    refine op_index_rd slt22 (ev_hit hN rfl) hv rfl (by omega) (by omega) ?_
    intro b460 o461 _ _ hc462
    refine op_load1 (v := (Value.int .u8 ((bl.getD 0 0).toNat : Int))) one5 (ev_hit hN rfl) (by have := hc462 0 (Value.int .u8 ((bl.getD 0 0).toNat : Int)) (by decide) (el_u8 (i := 0) (by omega) (by omega)); simpa using this) ?_
    refine op_eql (ev_hit hN rfl) rfl (fun c15 => ?_) (fun c15 => ?_)
    · -- 15 True
      refine reg_nil ?_
      refine hK459 _ _ ?_
      refine wp_cond_true (ev_hit hN rfl) ?_
      refine seq_any fun K463 hK463 => ?_
      refine seq_any fun K464 hK464 => ?_
      refine one_reg ?_
      refine op_move (ev_base hN rfl s0) ?_
      refine op_len_rd Try.underlying22 (ev_hit hN rfl) hv ?_
      refine op_lss (ev_hit hN rfl) rfl (fun c18 => ?_) (fun c18 => ?_)
      · -- 18 True
        refine reg_nil ?_
        refine hK464 _ _ ?_
        refine wp_cond_true (ev_hit hN rfl) ?_
        refine seq_any fun K465 hK465 => ?_
        refine one_reg ?_
        refine op_build (pv := []) (v := (Value.agg #[(Value.int .i64 0), (Value.int .i64 0), (Value.string (bs []))])) trivial (by kernel_rfl) ?_
        have hB450_old := hB450
        refine op_store (vs := [(Value.int .i64 0), (Value.int .i64 0), (Value.string (bs []))]) (cs' := [(Value.int .i64 0), (Value.int .i64 0), (Value.string (bs []))]) size50 (ev_hit hN rfl) (ev_hit hN rfl) rfl rfl rfl hB450 (Nat.le_of_ble_eq_true rfl) rfl ?_
        intro w468 hB450 E469
        have z_w468 := E469.size
        have hv := hv.keep E469 (fun k hk => .inr (by simp at hk; omega))
        have hb := below_step1 hb E469 hb.size (by omega)
        refine op_assign rfl ?_
        refine op_assign rfl ?_
        refine reg_nil ?_
        refine hK465 _ _ ?_
        refine wp_ret (then_ret (then_ret ( ?_)))
        refine retN (rs := [.cell 2 50, .tmp 3, .tmp 4]) (vs := [(Value.agg #[(Value.int .i64 0), (Value.int .i64 0), (Value.string (bs []))]), (Value.int .i64 0), (Value.int .i64 2)]) rfl hd ⟨⟨_, (ev_hit hN rfl), run_loadA (cs := [(Value.int .i64 0), (Value.int .i64 0), (Value.string (bs []))]) agg50 rfl (fun j u hu => by rw [Nat.zero_add]; exact hB450.cell hu)⟩, ⟨(ev_hit hN rfl), ⟨(ev_hit hN rfl), trivial⟩⟩⟩ rfl ⟨_, rfl, ?_⟩
        -- path 10F 15T 18T
        have hq : takeV bl = (V0, 0, 2) := by rw [take_cons (by omega), if_pos (by omega), if_pos (by omega)]
        rw [hq]
        exact ⟨hb, rfl⟩
      · -- 18 False
        refine reg_nil ?_
        refine hK464 _ _ ?_
        refine wp_cond_false (ev_hit hN rfl) ?_
        refine wp_skip ?_
        refine hK463 _ _ ?_
        refine seq_any fun K470 hK470 => ?_
        refine one_reg ?_
        refine op_assign rfl ?_
        refine reg_nil ?_
        refine hK470 _ _ ?_
        refine seq_any fun K471 hK471 => ?_
        refine seq_any fun K472 hK472 => ?_
        refine one_reg ?_
        refine op_assign rfl ?_
        refine reg_nil ?_
        refine hK472 _ _ ?_
        refine wp_block ?_
        refine loop_m (fun m a w' => ∃ (i : Nat), m = 8 - i ∧ (a.tmps.getD 0 undef = v) ∧ (a.tmps.getD 2 undef = (ptr b448 0)) ∧ (a.tmps.getD 3 undef = (Value.int .i64 0)) ∧ (a.tmps.getD 4 undef = (Value.int .i64 0)) ∧ (a.tmps.getD 8 undef = v) ∧ (a.tmps.getD 9 undef = (Value.int .i64 ((bl.length : Nat) : Int))) ∧ (a.tmps.getD 10 undef = (Value.bool false)) ∧ (a.tmps.getD 12 undef = v) ∧ (a.tmps.getD 13 undef = (ptr b460 o461)) ∧ (a.tmps.getD 14 undef = (Value.int .u8 ((bl.getD 0 0).toNat : Int))) ∧ (a.tmps.getD 15 undef = (Value.bool true)) ∧ (a.tmps.getD 16 undef = v) ∧ (a.tmps.getD 17 undef = (Value.int .i64 ((bl.length : Nat) : Int))) ∧ (a.tmps.getD 18 undef = (Value.bool false)) ∧ (a.tmps.getD 6 undef = (Value.int .i64 (1 + (i : Int)))) ∧ (a.tmps.getD 5 undef = (Value.int .u64 ((ofBe ((bl.drop 1).take i) : Nat) : Int))) ∧ (i ≤ 8) ∧ w447 = w') _ hN hd ⟨0, rfl, (sl_base hN rfl s0), (sl_hit hN rfl), (sl_hit hN rfl), (sl_hit hN rfl), (sl_hit hN rfl), (sl_hit hN rfl), (sl_hit hN rfl), (sl_hit hN rfl), (sl_hit hN rfl), (sl_hit hN rfl), (sl_hit hN rfl), (sl_hit hN rfl), (sl_hit hN rfl), (sl_hit hN rfl), (sl_hit hN rfl), (sl_hit hN rfl), Nat.zero_le _, rfl⟩ ?_
        rintro _ a473 _ hN473 hd473 ⟨i, rfl, s473_0, s473_2, s473_3, s473_4, s473_8, s473_9, s473_10, s473_12, s473_13, s473_14, s473_15, s473_16, s473_17, s473_18, s473_6, s473_5, hi, rfl⟩
        refine seq_any fun K474 hK474 => ?_
        refine seq_any fun K475 hK475 => ?_
        refine one_reg ?_
        refine op_move (ev_base hN473 rfl s473_6) ?_
        refine op_lss (ev_hit hN473 rfl) rfl (fun c21 => ?_) (fun c21 => ?_)
        · -- 21 True
          refine reg_nil ?_
          refine hK475 _ _ ?_
          refine wp_cond_true (ev_hit hN473 rfl) ?_
          refine wp_skip ?_
          refine hK474 _ _ ?_
          refine seq_any fun K476 hK476 => ?_
          refine wp_block ?_
          refine one_reg ?_
          have hsm := ofBe_small (l := ((bl.drop 1).take i)) (by simp; omega)
          refine op_move (ev_base hN473 rfl s473_5) ?_
          refine op_mul (r := (((ofBe ((bl.drop 1).take i) : Nat) : Int) * 256)) (ev_hit hN473 rfl) rfl (wrap_u64 (by omega)) ?_
          refine op_move (ev_base hN473 rfl s473_0) ?_
          refine op_move (ev_base hN473 rfl s473_6) ?_
          refine op_index_rd slt22 (ev_hit hN473 rfl) hv (ev_hit hN473 rfl) (by omega) (by omega) ?_
          intro b477 o478 _ _ hc479
          refine op_load1 (v := (Value.int .u8 ((bl.getD (1 + i) 0).toNat : Int))) one5 (ev_hit hN473 rfl) (by have := hc479 0 (Value.int .u8 ((bl.getD (1 + i) 0).toNat : Int)) (by decide) (el_u8 (i := (1 + i)) (by omega) (by omega)); simpa using this) ?_
          refine op_conv (r := ((bl.getD (1 + i) 0).toNat : Int)) (ev_hit hN473 rfl) us5 Try.underlying76 (wrap_u64 (u8_rng _)) ?_
          refine op_add (r := (((ofBe ((bl.drop 1).take i) : Nat) : Int) * 256 + ((bl.getD (1 + i) 0).toNat : Int))) (ev_hit hN473 rfl) (ev_hit hN473 rfl) (wrap_u64 (by have := (bl.getD (1 + i) 0).toNat_lt; omega)) ?_
          refine op_assign (ev_hit hN473 rfl) ?_
          refine reg_nil ?_
          refine hK476 _ _ ?_
          refine one_reg ?_
          refine op_move (ev_base hN473 rfl s473_6) ?_
          refine op_add (ev_hit hN473 rfl) rfl (add64 (by omega)) ?_
          refine op_assign (ev_hit hN473 rfl) ?_
          refine reg_nil ?_
          -- round 10F 15T 18F 21T
          exact loop_next _ hN473 hd473 ⟨i + 1, rfl, (sl_base hN473 rfl s473_0), (sl_base hN473 rfl s473_2), (sl_base hN473 rfl s473_3), (sl_base hN473 rfl s473_4), (sl_base hN473 rfl s473_8), (sl_base hN473 rfl s473_9), (sl_base hN473 rfl s473_10), (sl_base hN473 rfl s473_12), (sl_base hN473 rfl s473_13), (sl_base hN473 rfl s473_14), (sl_base hN473 rfl s473_15), (sl_base hN473 rfl s473_16), (sl_base hN473 rfl s473_17), (sl_base hN473 rfl s473_18), (sl_hit hN473 rfl).trans (congrArg (Value.int .i64) (by omega)), (sl_hit hN473 rfl).trans (congrArg (Value.int .u64) (by rw [take_snoc (l := bl.drop 1) (i := i) (by simp; omega), ofBe_snoc, drop1_get]; simp)), (by omega), rfl⟩ (by omega)
        · -- 21 False
          refine reg_nil ?_
          refine hK475 _ _ ?_
          refine wp_cond_false (ev_hit hN473 rfl) ?_
          refine wp_exit (then_exit (then_exit (blk_hit ?_)))
          refine hK471 _ _ ?_
          refine seq_any fun K480 hK480 => ?_
          refine one_reg ?_
          have hbig := ofBe_8 (l := ((bl.drop 1).take i)) (by simp; omega)
          refine op_move (ev_base hN473 rfl s473_5) ?_
          refine op_xor (r := (if ofBe (((bl.drop 1).take i)) < 9223372036854775808 then ((ofBe (((bl.drop 1).take i)) : Nat) : Int) + 9223372036854775808 else ((ofBe (((bl.drop 1).take i)) : Nat) : Int) - 9223372036854775808)) (ev_hit hN473 rfl) rfl (xor_high hbig) ?_
          refine op_conv (r := (((ofBe (((bl.drop 1).take i)) : Nat) : Int) - 9223372036854775808)) (ev_hit hN473 rfl) us76 Try.underlying2 (i64_down hbig) ?_
          refine op_build (pv := [(0, (Value.int .i64 1)), (1, (Value.int .i64 (((ofBe (((bl.drop 1).take i)) : Nat) : Int) - 9223372036854775808)))]) (v := (Value.agg #[(Value.int .i64 1), (Value.int .i64 (((ofBe (((bl.drop 1).take i)) : Nat) : Int) - 9223372036854775808)), (Value.string (bs []))])) ⟨rfl, rfl, ⟨rfl, (ev_hit hN473 rfl), trivial⟩⟩ (by kernel_rfl) ?_
          have hB450_old := hB450
          refine op_store (vs := [(Value.int .i64 1), (Value.int .i64 (((ofBe (((bl.drop 1).take i)) : Nat) : Int) - 9223372036854775808)), (Value.string (bs []))]) (cs' := [(Value.int .i64 1), (Value.int .i64 (((ofBe (((bl.drop 1).take i)) : Nat) : Int) - 9223372036854775808)), (Value.string (bs []))]) size50 (ev_base hN473 rfl s473_2) (ev_hit hN473 rfl) rfl rfl rfl hB450 (Nat.le_of_ble_eq_true rfl) rfl ?_
          intro w483 hB450 E484
          have z_w483 := E484.size
          have hv := hv.keep E484 (fun k hk => .inr (by simp at hk; omega))
          have hb := below_step1 hb E484 hb.size (by omega)
          refine op_assign rfl ?_
          refine op_assign rfl ?_
          refine reg_nil ?_
          refine hK480 _ _ ?_
          refine wp_ret (then_ret ( ?_))
          refine retN (rs := [.cell 2 50, .tmp 3, .tmp 4]) (vs := [(Value.agg #[(Value.int .i64 1), (Value.int .i64 (((ofBe (((bl.drop 1).take i)) : Nat) : Int) - 9223372036854775808)), (Value.string (bs []))]), (Value.int .i64 9), (Value.int .i64 0)]) rfl hd473 ⟨⟨_, (ev_base hN473 rfl s473_2), run_loadA (cs := [(Value.int .i64 1), (Value.int .i64 (((ofBe (((bl.drop 1).take i)) : Nat) : Int) - 9223372036854775808)), (Value.string (bs []))]) agg50 rfl (fun j u hu => by rw [Nat.zero_add]; exact hB450.cell hu)⟩, ⟨(ev_hit hN473 rfl), ⟨(ev_hit hN473 rfl), trivial⟩⟩⟩ rfl ⟨_, rfl, ?_⟩
          -- path 10F 15T 18F 21F
          have h8 : i = 8 := by omega
          have e8 : ((bl.drop 1).take i) = ((bl.drop 1).take 8) := by rw [h8]; try exact List.take_of_length_le (by omega)
          have hq : takeV bl = (⟨1, (ofBe ((bl.drop 1).take 8) : Int) - 9223372036854775808, []⟩, 9, 0) := by rw [take_cons (by omega), if_pos (by omega), if_neg (by omega)]
          rw [hq, e8]
          exact ⟨hb, rfl⟩
    · -- 15 False
      refine reg_nil ?_
      refine hK459 _ _ ?_
      refine wp_cond_false (ev_hit hN rfl) ?_
      refine wp_skip ?_
      refine hK458 _ _ ?_
      refine seq_any fun K485 hK485 => ?_
      refine seq_any fun K486 hK486 => ?_
      refine one_reg ?_
      refine op_move (ev_base hN rfl s0) ?_
      refine op_index_rd slt22 (ev_hit hN rfl) hv rfl (by omega) (by omega) ?_
      intro b487 o488 _ _ hc489
      refine op_load1 (v := (Value.int .u8 ((bl.getD 0 0).toNat : Int))) one5 (ev_hit hN rfl) (by have := hc489 0 (Value.int .u8 ((bl.getD 0 0).toNat : Int)) (by decide) (el_u8 (i := 0) (by omega) (by omega)); simpa using this) ?_
      refine op_neq (ev_hit hN rfl) rfl (fun c39 => ?_) (fun c39 => ?_)
      · -- 39 True
        refine reg_nil ?_
        refine hK486 _ _ ?_
        refine wp_cond_true (ev_hit hN rfl) ?_
        refine seq_any fun K490 hK490 => ?_
        refine one_reg ?_
        refine op_build (pv := []) (v := (Value.agg #[(Value.int .i64 0), (Value.int .i64 0), (Value.string (bs []))])) trivial (by kernel_rfl) ?_
        have hB450_old := hB450
        refine op_store (vs := [(Value.int .i64 0), (Value.int .i64 0), (Value.string (bs []))]) (cs' := [(Value.int .i64 0), (Value.int .i64 0), (Value.string (bs []))]) size50 (ev_hit hN rfl) (ev_hit hN rfl) rfl rfl rfl hB450 (Nat.le_of_ble_eq_true rfl) rfl ?_
        intro w493 hB450 E494
        have z_w493 := E494.size
        have hv := hv.keep E494 (fun k hk => .inr (by simp at hk; omega))
        have hb := below_step1 hb E494 hb.size (by omega)
        refine op_assign rfl ?_
        refine op_assign rfl ?_
        refine reg_nil ?_
        refine hK490 _ _ ?_
        refine wp_ret (then_ret ( ?_))
        refine retN (rs := [.cell 2 50, .tmp 3, .tmp 4]) (vs := [(Value.agg #[(Value.int .i64 0), (Value.int .i64 0), (Value.string (bs []))]), (Value.int .i64 0), (Value.int .i64 3)]) rfl hd ⟨⟨_, (ev_hit hN rfl), run_loadA (cs := [(Value.int .i64 0), (Value.int .i64 0), (Value.string (bs []))]) agg50 rfl (fun j u hu => by rw [Nat.zero_add]; exact hB450.cell hu)⟩, ⟨(ev_hit hN rfl), ⟨(ev_hit hN rfl), trivial⟩⟩⟩ rfl ⟨_, rfl, ?_⟩
        -- path 10F 15F 39T
        have hq : takeV bl = (V0, 0, 3) := by rw [take_cons (by omega), if_neg (by omega), if_neg (by omega)]
        rw [hq]
        exact ⟨hb, rfl⟩
      · -- 39 False
        refine reg_nil ?_
        refine hK486 _ _ ?_
        refine wp_cond_false (ev_hit hN rfl) ?_
        refine wp_skip ?_
        refine hK485 _ _ ?_
        refine seq_any fun K495 hK495 => ?_
        refine seq_any fun K496 hK496 => ?_
        refine one_reg ?_
        refine op_assign rfl ?_
        refine reg_nil ?_
        refine hK496 _ _ ?_
        refine wp_block ?_
        refine loop_m (fun m a w' => ∃ (i : Nat), m = bl.length - i ∧ (a.tmps.getD 0 undef = v) ∧ (a.tmps.getD 2 undef = (ptr b448 0)) ∧ (a.tmps.getD 8 undef = v) ∧ (a.tmps.getD 9 undef = (Value.int .i64 ((bl.length : Nat) : Int))) ∧ (a.tmps.getD 10 undef = (Value.bool false)) ∧ (a.tmps.getD 12 undef = v) ∧ (a.tmps.getD 13 undef = (ptr b460 o461)) ∧ (a.tmps.getD 14 undef = (Value.int .u8 ((bl.getD 0 0).toNat : Int))) ∧ (a.tmps.getD 15 undef = (Value.bool false)) ∧ (a.tmps.getD 36 undef = v) ∧ (a.tmps.getD 37 undef = (ptr b487 o488)) ∧ (a.tmps.getD 38 undef = (Value.int .u8 ((bl.getD 0 0).toNat : Int))) ∧ (a.tmps.getD 39 undef = (Value.bool false)) ∧ (a.tmps.getD 7 undef = (Value.int .i64 (1 + (i : Int)))) ∧ (i ≤ bl.length - 1) ∧ (i ≤ 30) ∧ (scanT (bl.drop 1) 0 = scanT ((bl.drop 1).drop i) i) ∧ w447 = w') _ hN hd ⟨0, rfl, (sl_base hN rfl s0), (sl_hit hN rfl), (sl_hit hN rfl), (sl_hit hN rfl), (sl_hit hN rfl), (sl_hit hN rfl), (sl_hit hN rfl), (sl_hit hN rfl), (sl_hit hN rfl), (sl_hit hN rfl), (sl_hit hN rfl), (sl_hit hN rfl), (sl_hit hN rfl), (sl_hit hN rfl), Nat.zero_le _, Nat.zero_le _, rfl, rfl⟩ ?_
        rintro _ a497 _ hN497 hd497 ⟨i, rfl, s497_0, s497_2, s497_8, s497_9, s497_10, s497_12, s497_13, s497_14, s497_15, s497_36, s497_37, s497_38, s497_39, s497_7, hi, h30, he, rfl⟩
        refine seq_any fun K498 hK498 => ?_
        refine seq_any fun K499 hK499 => ?_
        refine one_reg ?_
        refine op_move (ev_base hN497 rfl s497_7) ?_
        refine op_move (ev_base hN497 rfl s497_0) ?_
        refine op_len_rd Try.underlying22 (ev_hit hN497 rfl) hv ?_
        refine op_lss (ev_hit hN497 rfl) (ev_hit hN497 rfl) (fun c44 => ?_) (fun c44 => ?_)
        · -- 44 True
          refine reg_nil ?_
          refine hK499 _ _ ?_
          refine wp_cond_true (ev_hit hN497 rfl) ?_
          refine wp_skip ?_
          refine hK498 _ _ ?_
          refine seq_any fun K500 hK500 => ?_
          refine wp_block ?_
          refine seq_any fun K501 hK501 => ?_
          refine seq_any fun K502 hK502 => ?_
          refine one_reg ?_
          refine op_move (ev_base hN497 rfl s497_0) ?_
          refine op_move (ev_base hN497 rfl s497_7) ?_
          refine op_index_rd slt22 (ev_hit hN497 rfl) hv (ev_hit hN497 rfl) (by omega) (by omega) ?_
          intro b503 o504 _ _ hc505
          refine op_load1 (v := (Value.int .u8 ((bl.getD (1 + i) 0).toNat : Int))) one5 (ev_hit hN497 rfl) (by have := hc505 0 (Value.int .u8 ((bl.getD (1 + i) 0).toNat : Int)) (by decide) (el_u8 (i := (1 + i)) (by omega) (by omega)); simpa using this) ?_
          refine op_eql (ev_hit hN497 rfl) rfl (fun c51 => ?_) (fun c51 => ?_)
          · -- 51 True
            refine reg_nil ?_
            refine hK502 _ _ ?_
            refine wp_cond_true (ev_hit hN497 rfl) ?_
            refine seq_any fun K506 hK506 => ?_
            refine one_reg ?_
            refine op_move (ev_base hN497 rfl s497_0) ?_
            refine op_move (ev_base hN497 rfl s497_7) ?_
            refine op_slice_rd (lo := 1) (hi := (1 + i)) slt22 (ev_hit hN497 rfl) hv (.inr ⟨_, _, rfl, rfl⟩) (.inr ⟨_, _, rfl, (ev_hit hN497 rfl).trans (congrArg (Value.int _) (by omega))⟩) (by omega) (by omega) ?_
            intro v507 hR508
            have hR508 : RdC w447 0 w.heap.size 1 v507 i ((((bl.drop 1).take i)).map u8v) := by simpa [List.map_drop, List.map_take] using hR508
            refine op_str_of (bl := ((bl.drop 1).take i)) Try.underlying22 Try.underlying5 Try.underlying9 (ev_hit hN497 rfl) hR508 ?_
            refine op_build (pv := [(0, (Value.int .i64 2)), (2, (Value.string (bs ((bl.drop 1).take i))))]) (v := (Value.agg #[(Value.int .i64 2), (Value.int .i64 0), (Value.string (bs ((bl.drop 1).take i)))])) ⟨rfl, rfl, ⟨rfl, (ev_hit hN497 rfl), trivial⟩⟩ (by kernel_rfl) ?_
            refine op_move (ev_base hN497 rfl s497_7) ?_
            refine op_add (ev_hit hN497 rfl) rfl (add64 (by omega)) ?_
            have hB450_old := hB450
            refine op_store (vs := [(Value.int .i64 2), (Value.int .i64 0), (Value.string (bs ((bl.drop 1).take i)))]) (cs' := [(Value.int .i64 2), (Value.int .i64 0), (Value.string (bs ((bl.drop 1).take i)))]) size50 (ev_base hN497 rfl s497_2) (ev_hit hN497 rfl) rfl rfl rfl hB450 (Nat.le_of_ble_eq_true rfl) rfl ?_
            intro w511 hB450 E512
            have z_w511 := E512.size
            have hv := hv.keep E512 (fun k hk => .inr (by simp at hk; omega))
            have hR508 := hR508.keep E512 (fun k hk => .inr (by simp at hk; omega))
            have hb := below_step1 hb E512 hb.size (by omega)
            refine op_assign (ev_hit hN497 rfl) ?_
            refine op_assign rfl ?_
            refine reg_nil ?_
            refine hK506 _ _ ?_
            refine wp_ret (then_ret (blk_ret (then_ret (then_ret (blk_ret (then_ret ( ?_)))))))
            refine retN (rs := [.cell 2 50, .tmp 3, .tmp 4]) (vs := [(Value.agg #[(Value.int .i64 2), (Value.int .i64 0), (Value.string (bs ((bl.drop 1).take i)))]), (Value.int .i64 ((1 + (i : Int)) + 1)), (Value.int .i64 0)]) rfl hd497 ⟨⟨_, (ev_base hN497 rfl s497_2), run_loadA (cs := [(Value.int .i64 2), (Value.int .i64 0), (Value.string (bs ((bl.drop 1).take i)))]) agg50 rfl (fun j u hu => by rw [Nat.zero_add]; exact hB450.cell hu)⟩, ⟨(ev_hit hN497 rfl), ⟨(ev_hit hN497 rfl), trivial⟩⟩⟩ rfl ⟨_, rfl, ?_⟩
            -- path 10F 15F 39F 44T 51T
            have hq0 : takeV bl = textR (bl.drop 1) := by rw [take_cons (by omega), if_neg (by omega), if_pos (by omega)]
            have hq : textR (bl.drop 1) = (⟨2, 0, (bl.drop 1).take i⟩, (i : Int) + 2, 0) := textR_of (q := .inr i) (by rw [he, scan_step (by simp; omega), drop1_get, if_pos (by omega)])
            rw [hq0, hq]
            exact ⟨hb, congrArg (fun q => Value.tuple #[_, .int .i64 q, _]) (show (1 + (i : Int)) + 1 = (i : Int) + 2 by omega)⟩
          · -- 51 False
            refine reg_nil ?_
            refine hK502 _ _ ?_
            refine wp_cond_false (ev_hit hN497 rfl) ?_
            refine wp_skip ?_
            refine hK501 _ _ ?_
            refine seq_any fun K513 hK513 => ?_
            refine one_reg ?_
            refine op_move (ev_base hN497 rfl s497_0) ?_
            refine op_move (ev_base hN497 rfl s497_7) ?_
            refine op_index_rd slt22 (ev_hit hN497 rfl) hv (ev_hit hN497 rfl) (by omega) (by omega) ?_
            intro b514 o515 _ _ hc516
            refine op_load1 (v := (Value.int .u8 ((bl.getD (1 + i) 0).toNat : Int))) one5 (ev_hit hN497 rfl) (by have := hc516 0 (Value.int .u8 ((bl.getD (1 + i) 0).toNat : Int)) (by decide) (el_u8 (i := (1 + i)) (by omega) (by omega)); simpa using this) ?_
            refine op_lss (ev_hit hN497 rfl) rfl (fun c63 => ?_) (fun c63 => ?_)
            · -- 63 True
              refine op_move (ev_hit hN497 rfl) ?_
              refine g_false (j := 5) (dj := 64) (b := false) rfl rfl rfl (ev_hit hN497 rfl) rfl rfl ?_
              refine g_false (j := 5) (dj := 64) (b := false) rfl rfl rfl (ev_hit hN497 rfl) rfl rfl ?_
              refine g_false (j := 5) (dj := 64) (b := false) rfl rfl rfl (ev_hit hN497 rfl) rfl rfl ?_
              refine g_false (j := 5) (dj := 64) (b := false) rfl rfl rfl (ev_hit hN497 rfl) rfl rfl ?_
              refine g_false (j := 5) (dj := 64) (b := false) rfl rfl rfl (ev_hit hN497 rfl) rfl rfl ?_
              refine op_pick_t (ev_hit hN497 rfl) rfl ?_
              refine op_move (ev_hit hN497 rfl) ?_
              refine g_false (j := 12) (dj := 71) (b := false) rfl rfl rfl (ev_hit hN497 rfl) rfl rfl ?_
              refine g_false (j := 12) (dj := 71) (b := false) rfl rfl rfl (ev_hit hN497 rfl) rfl rfl ?_
              refine op_pick_t (ev_hit hN497 rfl) rfl ?_
              refine reg_nil ?_
              refine hK513 _ _ ?_
              refine wp_cond_true (ev_hit hN497 rfl) ?_
              refine seq_any fun K517 hK517 => ?_
              refine one_reg ?_
              refine op_build (pv := []) (v := (Value.agg #[(Value.int .i64 0), (Value.int .i64 0), (Value.string (bs []))])) trivial (by kernel_rfl) ?_
              have hB450_old := hB450
              refine op_store (vs := [(Value.int .i64 0), (Value.int .i64 0), (Value.string (bs []))]) (cs' := [(Value.int .i64 0), (Value.int .i64 0), (Value.string (bs []))]) size50 (ev_base hN497 rfl s497_2) (ev_hit hN497 rfl) rfl rfl rfl hB450 (Nat.le_of_ble_eq_true rfl) rfl ?_
              intro w520 hB450 E521
              have z_w520 := E521.size
              have hv := hv.keep E521 (fun k hk => .inr (by simp at hk; omega))
              have hb := below_step1 hb E521 hb.size (by omega)
              refine op_assign rfl ?_
              refine op_assign rfl ?_
              refine reg_nil ?_
              refine hK517 _ _ ?_
              refine wp_ret (blk_ret (then_ret (then_ret (blk_ret (then_ret ( ?_))))))
              refine retN (rs := [.cell 2 50, .tmp 3, .tmp 4]) (vs := [(Value.agg #[(Value.int .i64 0), (Value.int .i64 0), (Value.string (bs []))]), (Value.int .i64 0), (Value.int .i64 3)]) rfl hd497 ⟨⟨_, (ev_base hN497 rfl s497_2), run_loadA (cs := [(Value.int .i64 0), (Value.int .i64 0), (Value.string (bs []))]) agg50 rfl (fun j u hu => by rw [Nat.zero_add]; exact hB450.cell hu)⟩, ⟨(ev_hit hN497 rfl), ⟨(ev_hit hN497 rfl), trivial⟩⟩⟩ rfl ⟨_, rfl, ?_⟩
              -- path 10F 15F 39F 44T 51F 63T
              have hq0 : takeV bl = textR (bl.drop 1) := by rw [take_cons (by omega), if_neg (by omega), if_pos (by omega)]
              have hq : textR (bl.drop 1) = (V0, 0, 3) := textR_of (q := .inl 3) (by rw [he, scan_step (by simp; omega), drop1_get, if_neg (by omega), if_pos (.inr (okB_f (by omega)))])
              rw [hq0, hq]
              exact ⟨hb, rfl⟩
            · -- 63 False
              refine op_move (ev_hit hN497 rfl) ?_
              refine g_true (j := 5) (dj := 64) (b := false) rfl rfl rfl (ev_hit hN497 rfl) ?_
              refine op_move (ev_base hN497 rfl s497_0) ?_
              refine g_true (j := 5) (dj := 64) (b := false) rfl rfl rfl (ev_hit hN497 rfl) ?_
              refine op_move (ev_base hN497 rfl s497_7) ?_
              refine g_true (j := 5) (dj := 64) (b := false) rfl rfl rfl (ev_hit hN497 rfl) ?_
              refine op_index_rd slt22 (ev_hit hN497 rfl) hv (ev_hit hN497 rfl) (by omega) (by omega) ?_
              intro b522 o523 _ _ hc524
              refine g_true (j := 5) (dj := 64) (b := false) rfl rfl rfl (ev_hit hN497 rfl) ?_
              refine op_load1 (v := (Value.int .u8 ((bl.getD (1 + i) 0).toNat : Int))) one5 (ev_hit hN497 rfl) (by have := hc524 0 (Value.int .u8 ((bl.getD (1 + i) 0).toNat : Int)) (by decide) (el_u8 (i := (1 + i)) (by omega) (by omega)); simpa using this) ?_
              refine g_true (j := 5) (dj := 64) (b := false) rfl rfl rfl (ev_hit hN497 rfl) ?_
              refine op_gtr (ev_hit hN497 rfl) rfl (fun c69 => ?_) (fun c69 => ?_)
              · -- 69 True
                refine op_pick_f (ev_hit hN497 rfl) (ev_hit hN497 rfl) ?_
                refine op_move (ev_hit hN497 rfl) ?_
                refine g_false (j := 12) (dj := 71) (b := false) rfl rfl rfl (ev_hit hN497 rfl) rfl rfl ?_
                refine g_false (j := 12) (dj := 71) (b := false) rfl rfl rfl (ev_hit hN497 rfl) rfl rfl ?_
                refine op_pick_t (ev_hit hN497 rfl) rfl ?_
                refine reg_nil ?_
                refine hK513 _ _ ?_
                refine wp_cond_true (ev_hit hN497 rfl) ?_
                refine seq_any fun K525 hK525 => ?_
                refine one_reg ?_
                refine op_build (pv := []) (v := (Value.agg #[(Value.int .i64 0), (Value.int .i64 0), (Value.string (bs []))])) trivial (by kernel_rfl) ?_
                have hB450_old := hB450
                refine op_store (vs := [(Value.int .i64 0), (Value.int .i64 0), (Value.string (bs []))]) (cs' := [(Value.int .i64 0), (Value.int .i64 0), (Value.string (bs []))]) size50 (ev_base hN497 rfl s497_2) (ev_hit hN497 rfl) rfl rfl rfl hB450 (Nat.le_of_ble_eq_true rfl) rfl ?_
                intro w528 hB450 E529
                have z_w528 := E529.size
                have hv := hv.keep E529 (fun k hk => .inr (by simp at hk; omega))
                have hb := below_step1 hb E529 hb.size (by omega)
                refine op_assign rfl ?_
                refine op_assign rfl ?_
                refine reg_nil ?_
                refine hK525 _ _ ?_
                refine wp_ret (blk_ret (then_ret (then_ret (blk_ret (then_ret ( ?_))))))
                refine retN (rs := [.cell 2 50, .tmp 3, .tmp 4]) (vs := [(Value.agg #[(Value.int .i64 0), (Value.int .i64 0), (Value.string (bs []))]), (Value.int .i64 0), (Value.int .i64 3)]) rfl hd497 ⟨⟨_, (ev_base hN497 rfl s497_2), run_loadA (cs := [(Value.int .i64 0), (Value.int .i64 0), (Value.string (bs []))]) agg50 rfl (fun j u hu => by rw [Nat.zero_add]; exact hB450.cell hu)⟩, ⟨(ev_hit hN497 rfl), ⟨(ev_hit hN497 rfl), trivial⟩⟩⟩ rfl ⟨_, rfl, ?_⟩
                -- path 10F 15F 39F 44T 51F 63F 69T
                have hq0 : takeV bl = textR (bl.drop 1) := by rw [take_cons (by omega), if_neg (by omega), if_pos (by omega)]
                have hq : textR (bl.drop 1) = (V0, 0, 3) := textR_of (q := .inl 3) (by rw [he, scan_step (by simp; omega), drop1_get, if_neg (by omega), if_pos (.inr (okB_f (by omega)))])
                rw [hq0, hq]
                exact ⟨hb, rfl⟩
              · -- 69 False
                refine op_pick_f (ev_hit hN497 rfl) (ev_hit hN497 rfl) ?_
                refine op_move (ev_hit hN497 rfl) ?_
                refine g_true (j := 12) (dj := 71) (b := false) rfl rfl rfl (ev_hit hN497 rfl) ?_
                refine op_move (ev_base hN497 rfl s497_7) ?_
                refine g_true (j := 12) (dj := 71) (b := false) rfl rfl rfl (ev_hit hN497 rfl) ?_
                refine op_gtr (ev_hit hN497 rfl) rfl (fun c73 => ?_) (fun c73 => ?_)
                · -- 73 True
                  refine op_pick_f (ev_hit hN497 rfl) (ev_hit hN497 rfl) ?_
                  refine reg_nil ?_
                  refine hK513 _ _ ?_
                  refine wp_cond_true (ev_hit hN497 rfl) ?_
                  refine seq_any fun K530 hK530 => ?_
                  refine one_reg ?_
                  refine op_build (pv := []) (v := (Value.agg #[(Value.int .i64 0), (Value.int .i64 0), (Value.string (bs []))])) trivial (by kernel_rfl) ?_
                  have hB450_old := hB450
                  refine op_store (vs := [(Value.int .i64 0), (Value.int .i64 0), (Value.string (bs []))]) (cs' := [(Value.int .i64 0), (Value.int .i64 0), (Value.string (bs []))]) size50 (ev_base hN497 rfl s497_2) (ev_hit hN497 rfl) rfl rfl rfl hB450 (Nat.le_of_ble_eq_true rfl) rfl ?_
                  intro w533 hB450 E534
                  have z_w533 := E534.size
                  have hv := hv.keep E534 (fun k hk => .inr (by simp at hk; omega))
                  have hb := below_step1 hb E534 hb.size (by omega)
                  refine op_assign rfl ?_
                  refine op_assign rfl ?_
                  refine reg_nil ?_
                  refine hK530 _ _ ?_
                  refine wp_ret (blk_ret (then_ret (then_ret (blk_ret (then_ret ( ?_))))))
                  refine retN (rs := [.cell 2 50, .tmp 3, .tmp 4]) (vs := [(Value.agg #[(Value.int .i64 0), (Value.int .i64 0), (Value.string (bs []))]), (Value.int .i64 0), (Value.int .i64 3)]) rfl hd497 ⟨⟨_, (ev_base hN497 rfl s497_2), run_loadA (cs := [(Value.int .i64 0), (Value.int .i64 0), (Value.string (bs []))]) agg50 rfl (fun j u hu => by rw [Nat.zero_add]; exact hB450.cell hu)⟩, ⟨(ev_hit hN497 rfl), ⟨(ev_hit hN497 rfl), trivial⟩⟩⟩ rfl ⟨_, rfl, ?_⟩
                  -- path 10F 15F 39F 44T 51F 63F 69F 73T
                  have hq0 : takeV bl = textR (bl.drop 1) := by rw [take_cons (by omega), if_neg (by omega), if_pos (by omega)]
                  have hq : textR (bl.drop 1) = (V0, 0, 3) := by
                    by_cases hz : i = 30
                    · exact textR_of (q := .inl 3) (by rw [he, scan_step (by simp; omega), drop1_get, if_neg (by omega), if_pos (.inl hz)])
                    · exfalso; exact hz (by omega)
                  rw [hq0, hq]
                  exact ⟨hb, rfl⟩
                · -- 73 False
                  refine op_pick_f (ev_hit hN497 rfl) (ev_hit hN497 rfl) ?_
                  refine reg_nil ?_
                  refine hK513 _ _ ?_
                  refine wp_cond_false (ev_hit hN497 rfl) ?_
                  refine wp_skip ?_
                  refine hK500 _ _ ?_
                  refine one_reg ?_
                  refine op_move (ev_base hN497 rfl s497_7) ?_
                  refine op_add (ev_hit hN497 rfl) rfl (add64 (by omega)) ?_
                  refine op_assign (ev_hit hN497 rfl) ?_
                  refine reg_nil ?_
                  -- round 10F 15F 39F 44T 51F 63F 69F 73F
                  exact loop_next _ hN497 hd497 ⟨i + 1, rfl, (sl_base hN497 rfl s497_0), (sl_base hN497 rfl s497_2), (sl_base hN497 rfl s497_8), (sl_base hN497 rfl s497_9), (sl_base hN497 rfl s497_10), (sl_base hN497 rfl s497_12), (sl_base hN497 rfl s497_13), (sl_base hN497 rfl s497_14), (sl_base hN497 rfl s497_15), (sl_base hN497 rfl s497_36), (sl_base hN497 rfl s497_37), (sl_base hN497 rfl s497_38), (sl_base hN497 rfl s497_39), (sl_hit hN497 rfl).trans (congrArg (Value.int .i64) (by omega)), (by omega), (by omega), (by rw [he, scan_step (by simp; omega), drop1_get, if_neg (by omega), if_neg (fun h => h.elim (fun h => by omega) (fun h => by rw [okB_t (by omega)] at h; cases h))]), rfl⟩ (by omega)
        · -- 44 False
          refine reg_nil ?_
          refine hK499 _ _ ?_
          refine wp_cond_false (ev_hit hN497 rfl) ?_
          refine wp_exit (then_exit (then_exit (blk_hit ?_)))
          refine hK495 _ _ ?_
          refine seq_any fun K535 hK535 => ?_
          refine one_reg ?_
          refine op_build (pv := []) (v := (Value.agg #[(Value.int .i64 0), (Value.int .i64 0), (Value.string (bs []))])) trivial (by kernel_rfl) ?_
          have hB450_old := hB450
          refine op_store (vs := [(Value.int .i64 0), (Value.int .i64 0), (Value.string (bs []))]) (cs' := [(Value.int .i64 0), (Value.int .i64 0), (Value.string (bs []))]) size50 (ev_base hN497 rfl s497_2) (ev_hit hN497 rfl) rfl rfl rfl hB450 (Nat.le_of_ble_eq_true rfl) rfl ?_
          intro w538 hB450 E539
          have z_w538 := E539.size
          have hv := hv.keep E539 (fun k hk => .inr (by simp at hk; omega))
          have hb := below_step1 hb E539 hb.size (by omega)
          refine op_assign rfl ?_
          refine op_assign rfl ?_
          refine reg_nil ?_
          refine hK535 _ _ ?_
          refine wp_ret ?_
          refine retN (rs := [.cell 2 50, .tmp 3, .tmp 4]) (vs := [(Value.agg #[(Value.int .i64 0), (Value.int .i64 0), (Value.string (bs []))]), (Value.int .i64 0), (Value.int .i64 2)]) rfl hd497 ⟨⟨_, (ev_base hN497 rfl s497_2), run_loadA (cs := [(Value.int .i64 0), (Value.int .i64 0), (Value.string (bs []))]) agg50 rfl (fun j u hu => by rw [Nat.zero_add]; exact hB450.cell hu)⟩, ⟨(ev_hit hN497 rfl), ⟨(ev_hit hN497 rfl), trivial⟩⟩⟩ rfl ⟨_, rfl, ?_⟩
          -- path 10F 15F 39F 44F
          have hq0 : takeV bl = textR (bl.drop 1) := by rw [take_cons (by omega), if_neg (by omega), if_pos (by omega)]
          have hq : textR (bl.drop 1) = (V0, 0, 2) := textR_of (q := .inl 2) (by rw [he, scan_end (by simp; omega)])
          rw [hq0, hq]
          exact ⟨hb, rfl⟩

end Go.Proofs.Ytkkongnmcfdioaa
