/- Walks, written by a program: what each function of the translation hands back. -/
import Derived.Test.YtkkongnmcfdioaaV6
namespace Go.Proofs.Ytkkongnmcfdioaa
open Go.Gx Go.RowKit
attribute [local irreducible] wpList Code.wp Calls

theorem Take_ret (bl : List UInt8) (v : Value) (w : World) (hl : bl.length ≤ 1000000000000) (hv : RdC w 0 w.heap.size 1 v bl.length (bl.map u8v)) : Ret Try.prog 40 #[v] w (fun v' w' => Below w.heap.size w w' ∧ v' = (Value.tuple #[(Value.agg #[(Value.int .i64 (takeV bl).1.k), (Value.int .i64 (takeV bl).1.n), (Value.string (bs (takeV bl).1.s))]), (Value.int .i64 (takeV bl).2.1), (Value.int .i64 (takeV bl).2.2)])) := by
  have hb := Below.refl w.heap.size w
  refine enter (N := 47) Try.func40 rfl rfl (by simp) fun a0 hN hd hA => ?_
  have s0 : a0.tmps.getD 0 undef = v := hA 0 (by simp)
  clear hA
  refine seq_any fun K651 hK651 => ?_
  refine one_reg ?_
  refine op_alloc (cs := [(Value.int .i64 0), (Value.int .i64 0), (Value.string (bs []))]) zero50 rfl ?_
  intro w652 b653 lo_b653 hi_b653 hB655 E654
  have z_w652 := E654.size
  have hv := hv.keep0 E654
  have hb := below_step0 hb E654 hb.size
  refine op_assign rfl ?_
  refine op_assign rfl ?_
  refine reg_nil ?_
  refine hK651 _ _ ?_
  refine seq_any fun K656 hK656 => ?_
  refine seq_any fun K657 hK657 => ?_
  refine one_reg ?_
  refine op_move (ev_base hN rfl s0) ?_
  refine op_len_rd Try.underlying22 (ev_hit hN rfl) hv ?_
  refine op_eql (ev_hit hN rfl) rfl (fun c10 => ?_) (fun c10 => ?_)
  · -- 10 True
    refine reg_nil ?_
    refine hK657 _ _ ?_
    refine wp_cond_true (ev_hit hN rfl) ?_
    refine seq_any fun K658 hK658 => ?_
    refine one_reg ?_
    refine op_loadA (cs := [(Value.int .i64 0), (Value.int .i64 0), (Value.string (bs []))]) agg50 rfl (ev_hit hN rfl) (fun j u hu => by rw [Nat.zero_add]; exact hB655.cell hu) ?_
    have hB655_old := hB655
    refine op_store (vs := [(Value.int .i64 0), (Value.int .i64 0), (Value.string (bs []))]) (cs' := [(Value.int .i64 0), (Value.int .i64 0), (Value.string (bs []))]) size50 (ev_hit hN rfl) (ev_hit hN rfl) rfl rfl rfl hB655 (Nat.le_of_ble_eq_true rfl) rfl ?_
    intro w661 hB655 E662
    have z_w661 := E662.size
    have hv := hv.keep E662 (fun k hk => .inr (by simp at hk; omega))
    have hb := below_step1 hb E662 hb.size (by omega)
    refine op_assign rfl ?_
    refine op_assign rfl ?_
    refine reg_nil ?_
    refine hK658 _ _ ?_
    refine wp_ret (then_ret ( ?_))
    refine retN (rs := [.cell 2 50, .tmp 3, .tmp 4]) (vs := [(Value.agg #[(Value.int .i64 0), (Value.int .i64 0), (Value.string (bs []))]), (Value.int .i64 0), (Value.int .i64 2)]) rfl hd ⟨⟨_, (ev_hit hN rfl), run_loadA (cs := [(Value.int .i64 0), (Value.int .i64 0), (Value.string (bs []))]) agg50 rfl (fun j u hu => by rw [Nat.zero_add]; exact hB655.cell hu)⟩, ⟨(ev_hit hN rfl), ⟨(ev_hit hN rfl), trivial⟩⟩⟩ rfl ⟨_, rfl, ?_⟩
    -- path 10T
    have hq : takeV bl = (V0, 0, 2) := take_lo (List.length_eq_zero_iff.1 (by omega))
    rw [hq]
    exact ⟨hb, rfl⟩
  · -- 10 False
    refine reg_nil ?_
    refine hK657 _ _ ?_
    refine wp_cond_false (ev_hit hN rfl) ?_
    refine wp_skip ?_
    refine hK656 _ _ ?_
    refine seq_any fun K663 hK663 => ?_
    refine seq_any fun K664 hK664 => ?_
    refine one_reg ?_
    refine op_move (ev_base hN rfl s0) ?_
    refine op_index_rd slt22 (ev_hit hN rfl) hv rfl (by omega) (by omega) ?_
    intro b665 o666 _ _ hc667
    refine op_load1 (v := (Value.int .u8 ((bl.getD 0 0).toNat : Int))) one5 (ev_hit hN rfl) (by have := hc667 0 (Value.int .u8 ((bl.getD 0 0).toNat : Int)) (by decide) (el_u8 (i := 0) (by omega) (by omega)); simpa using this) ?_
    refine reg_nil ?_
    refine hK664 _ _ ?_
    refine wp_block ?_
    refine seq_any fun K668 hK668 => ?_
    refine one_reg ?_
    refine op_eql (ev_hit hN rfl) rfl (fun c16 => ?_) (fun c16 => ?_)
    · -- 16 True
      refine op_assign (ev_hit hN rfl) ?_
      refine reg_nil ?_
      refine hK668 _ _ ?_
      refine wp_cond_true (ev_hit hN rfl) ?_
      refine seq_any fun K669 hK669 => ?_
      refine seq_any fun K670 hK670 => ?_
      refine one_reg ?_
      refine op_move (ev_base hN rfl s0) ?_
      refine op_len_rd Try.underlying22 (ev_hit hN rfl) hv ?_
      refine op_lss (ev_hit hN rfl) rfl (fun c19 => ?_) (fun c19 => ?_)
      · -- 19 True
        refine reg_nil ?_
        refine hK670 _ _ ?_
        refine wp_cond_true (ev_hit hN rfl) ?_
        refine seq_any fun K671 hK671 => ?_
        refine one_reg ?_
        refine op_loadA (cs := [(Value.int .i64 0), (Value.int .i64 0), (Value.string (bs []))]) agg50 rfl (ev_hit hN rfl) (fun j u hu => by rw [Nat.zero_add]; exact hB655.cell hu) ?_
        have hB655_old := hB655
        refine op_store (vs := [(Value.int .i64 0), (Value.int .i64 0), (Value.string (bs []))]) (cs' := [(Value.int .i64 0), (Value.int .i64 0), (Value.string (bs []))]) size50 (ev_hit hN rfl) (ev_hit hN rfl) rfl rfl rfl hB655 (Nat.le_of_ble_eq_true rfl) rfl ?_
        intro w674 hB655 E675
        have z_w674 := E675.size
        have hv := hv.keep E675 (fun k hk => .inr (by simp at hk; omega))
        have hb := below_step1 hb E675 hb.size (by omega)
        refine op_assign rfl ?_
        refine op_assign rfl ?_
        refine reg_nil ?_
        refine hK671 _ _ ?_
        refine wp_ret (then_ret (blk_ret (then_ret ( ?_))))
        refine retN (rs := [.cell 2 50, .tmp 3, .tmp 4]) (vs := [(Value.agg #[(Value.int .i64 0), (Value.int .i64 0), (Value.string (bs []))]), (Value.int .i64 0), (Value.int .i64 2)]) rfl hd ⟨⟨_, (ev_hit hN rfl), run_loadA (cs := [(Value.int .i64 0), (Value.int .i64 0), (Value.string (bs []))]) agg50 rfl (fun j u hu => by rw [Nat.zero_add]; exact hB655.cell hu)⟩, ⟨(ev_hit hN rfl), ⟨(ev_hit hN rfl), trivial⟩⟩⟩ rfl ⟨_, rfl, ?_⟩
        -- path 10F 16T 19T
        have hq : takeV bl = (V0, 0, 2) := by rw [take_cons (by omega), if_pos (by omega), if_pos (by omega)]
        rw [hq]
        exact ⟨hb, rfl⟩
      · -- 19 False
        refine reg_nil ?_
        refine hK670 _ _ ?_
        refine wp_cond_false (ev_hit hN rfl) ?_
        refine wp_skip ?_
        refine hK669 _ _ ?_
        refine seq_any fun K676 hK676 => ?_
        refine one_reg ?_
        refine op_assign rfl ?_
        refine reg_nil ?_
        refine hK676 _ _ ?_
        refine seq_any fun K677 hK677 => ?_
        refine seq_any fun K678 hK678 => ?_
        refine one_reg ?_
        refine op_move (ev_base hN rfl s0) ?_
        refine op_slice_rd (lo := 1) (hi := 9) slt22 (ev_hit hN rfl) hv (.inr ⟨_, _, rfl, rfl⟩) (.inr ⟨_, _, rfl, rfl⟩) (by omega) (by omega) ?_
        intro v679 hR680
        have hR680 : RdC w652 0 w.heap.size 1 v679 8 ((((bl.drop 1).take 8)).map u8v) := by simpa [List.map_drop, List.map_take] using hR680
        refine op_len_rd Try.underlying22 (ev_hit hN rfl) hR680 ?_
        have hL8 : ((bl.drop 1).take 8).length = 8 := by simp; omega
        refine op_move rfl ?_
        refine reg_nil ?_
        refine hK678 _ _ ?_
        refine wp_block ?_
        refine loop_m (fun m a w' => ∃ (i : Nat), m = 8 - i ∧ (a.tmps.getD 0 undef = v) ∧ (a.tmps.getD 2 undef = (ptr b653 0)) ∧ (a.tmps.getD 3 undef = (Value.int .i64 0)) ∧ (a.tmps.getD 4 undef = (Value.int .i64 0)) ∧ (a.tmps.getD 8 undef = v) ∧ (a.tmps.getD 9 undef = (Value.int .i64 ((bl.length : Nat) : Int))) ∧ (a.tmps.getD 10 undef = (Value.bool false)) ∧ (a.tmps.getD 12 undef = v) ∧ (a.tmps.getD 13 undef = (ptr b665 o666)) ∧ (a.tmps.getD 14 undef = (Value.int .u8 ((bl.getD 0 0).toNat : Int))) ∧ (a.tmps.getD 15 undef = (Value.bool true)) ∧ (a.tmps.getD 16 undef = (Value.bool true)) ∧ (a.tmps.getD 17 undef = v) ∧ (a.tmps.getD 18 undef = (Value.int .i64 ((bl.length : Nat) : Int))) ∧ (a.tmps.getD 19 undef = (Value.bool false)) ∧ (a.tmps.getD 21 undef = v) ∧ (a.tmps.getD 22 undef = v679) ∧ (a.tmps.getD 23 undef = (Value.int .i64 8)) ∧ (a.tmps.getD 24 undef = (Value.int .i64 ((i : Nat) : Int))) ∧ (a.tmps.getD 5 undef = (Value.int .u64 ((ofBe (((bl.drop 1).take 8).take i) : Nat) : Int))) ∧ (i ≤ 8) ∧ w652 = w') _ hN hd ⟨0, rfl, (sl_base hN rfl s0), (sl_hit hN rfl), (sl_hit hN rfl), (sl_hit hN rfl), (sl_hit hN rfl), (sl_hit hN rfl), (sl_hit hN rfl), (sl_hit hN rfl), (sl_hit hN rfl), (sl_hit hN rfl), (sl_hit hN rfl), (sl_hit hN rfl), (sl_hit hN rfl), (sl_hit hN rfl), (sl_hit hN rfl), (sl_hit hN rfl), (sl_hit hN rfl), (sl_hit hN rfl), (sl_hit hN rfl), (sl_hit hN rfl), Nat.zero_le _, rfl⟩ ?_
        rintro _ a681 _ hN681 hd681 ⟨i, rfl, s681_0, s681_2, s681_3, s681_4, s681_8, s681_9, s681_10, s681_12, s681_13, s681_14, s681_15, s681_16, s681_17, s681_18, s681_19, s681_21, s681_22, s681_23, s681_24, s681_5, hi, rfl⟩
        refine seq_any fun K682 hK682 => ?_
        refine one_reg ?_
        refine op_lss (ev_base hN681 rfl s681_24) (ev_base hN681 rfl s681_23) (fun c25 => ?_) (fun c25 => ?_)
        · -- 25 True
          refine reg_nil ?_
          refine hK682 _ _ ?_
          refine seq_any fun K683 hK683 => ?_
          refine wp_cond_true (ev_hit hN681 rfl) ?_
          refine wp_skip ?_
          refine hK683 _ _ ?_
          refine seq_any fun K684 hK684 => ?_
          refine wp_block ?_
          refine seq_any fun K685 hK685 => ?_
          refine one_reg ?_
          refine op_index_rd slt22 (ev_base hN681 rfl s681_22) hR680 (ev_base hN681 rfl s681_24) (by omega) (by omega) ?_
          intro b686 o687 _ _ hc688
          refine op_load1 (v := (Value.int .u8 ((((bl.drop 1).take 8).getD i 0).toNat : Int))) one5 (ev_hit hN681 rfl) (by have := hc688 0 (Value.int .u8 ((((bl.drop 1).take 8).getD i 0).toNat : Int)) (by decide) (el_u8 (i := i) (by omega) (by omega)); simpa using this) ?_
          refine op_assign (ev_hit hN681 rfl) ?_
          refine reg_nil ?_
          refine hK685 _ _ ?_
          refine one_reg ?_
          have hsm := ofBe_small (l := ((bl.drop 1).take 8).take i) (by simp; omega)
          refine op_move (ev_base hN681 rfl s681_5) ?_
          refine op_shl (r := (((ofBe (((bl.drop 1).take 8).take i) : Nat) : Int) * 256)) (ev_hit hN681 rfl) rfl (by decide) (shl8 (by omega)) ?_
          refine op_move (ev_hit hN681 rfl) ?_
          refine op_conv (r := ((((bl.drop 1).take 8).getD i 0).toNat : Int)) (ev_hit hN681 rfl) us5 Try.underlying76 (wrap_u64 (u8_rng _)) ?_
          refine op_or (r := (((ofBe (((bl.drop 1).take 8).take i) : Nat) : Int) * 256 + ((((bl.drop 1).take 8).getD i 0).toNat : Int))) (ev_hit hN681 rfl) (ev_hit hN681 rfl) (or_low hsm (UInt8.toNat_lt _)) ?_
          refine op_assign (ev_hit hN681 rfl) ?_
          refine reg_nil ?_
          refine hK684 _ _ ?_
          refine one_reg ?_
          refine op_add (ev_base hN681 rfl s681_24) rfl (add64 (by omega)) ?_
          have hL8 : ((bl.drop 1).take 8).length = 8 := by simp; omega
          refine op_move (ev_hit hN681 rfl) ?_
          refine reg_nil ?_
          -- round 10F 16T 19F 25T
          exact loop_next _ hN681 hd681 ⟨i + 1, rfl, (sl_base hN681 rfl s681_0), (sl_base hN681 rfl s681_2), (sl_base hN681 rfl s681_3), (sl_base hN681 rfl s681_4), (sl_base hN681 rfl s681_8), (sl_base hN681 rfl s681_9), (sl_base hN681 rfl s681_10), (sl_base hN681 rfl s681_12), (sl_base hN681 rfl s681_13), (sl_base hN681 rfl s681_14), (sl_base hN681 rfl s681_15), (sl_base hN681 rfl s681_16), (sl_base hN681 rfl s681_17), (sl_base hN681 rfl s681_18), (sl_base hN681 rfl s681_19), (sl_base hN681 rfl s681_21), (sl_base hN681 rfl s681_22), (sl_base hN681 rfl s681_23), (sl_hit hN681 rfl).trans (congrArg (Value.int .i64) (by omega)), (sl_hit hN681 rfl).trans (congrArg (Value.int .u64) (by rw [take_snoc (l := ((bl.drop 1).take 8)) (i := i) (by omega), ofBe_snoc]; simp)), (by omega), rfl⟩ (by omega)
        · -- 25 False
          refine reg_nil ?_
          refine hK682 _ _ ?_
          refine seq_any fun K689 hK689 => ?_
          refine wp_cond_false (ev_hit hN681 rfl) ?_
          refine wp_exit (then_exit (then_exit (blk_hit ?_)))
          refine hK677 _ _ ?_
          refine seq_any fun K690 hK690 => ?_
          refine one_reg ?_
          have hbig := ofBe_8 (l := ((bl.drop 1).take 8).take i) (by simp; omega)
          refine op_move (ev_base hN681 rfl s681_5) ?_
          refine op_xor (r := (if ofBe (((bl.drop 1).take 8).take i) < 9223372036854775808 then ((ofBe (((bl.drop 1).take 8).take i) : Nat) : Int) + 9223372036854775808 else ((ofBe (((bl.drop 1).take 8).take i) : Nat) : Int) - 9223372036854775808)) (ev_hit hN681 rfl) rfl (xor_high hbig) ?_
          refine op_conv (r := (((ofBe (((bl.drop 1).take 8).take i) : Nat) : Int) - 9223372036854775808)) (ev_hit hN681 rfl) us76 Try.underlying2 (i64_down hbig) ?_
          refine op_build (pv := [(0, (Value.int .i64 1)), (1, (Value.int .i64 (((ofBe (((bl.drop 1).take 8).take i) : Nat) : Int) - 9223372036854775808)))]) (v := (Value.agg #[(Value.int .i64 1), (Value.int .i64 (((ofBe (((bl.drop 1).take 8).take i) : Nat) : Int) - 9223372036854775808)), (Value.string (bs []))])) ⟨rfl, rfl, ⟨rfl, (ev_hit hN681 rfl), trivial⟩⟩ (by kernel_rfl) ?_
          have hB655_old := hB655
          refine op_store (vs := [(Value.int .i64 1), (Value.int .i64 (((ofBe (((bl.drop 1).take 8).take i) : Nat) : Int) - 9223372036854775808)), (Value.string (bs []))]) (cs' := [(Value.int .i64 1), (Value.int .i64 (((ofBe (((bl.drop 1).take 8).take i) : Nat) : Int) - 9223372036854775808)), (Value.string (bs []))]) size50 (ev_base hN681 rfl s681_2) (ev_hit hN681 rfl) rfl rfl rfl hB655 (Nat.le_of_ble_eq_true rfl) rfl ?_
          intro w693 hB655 E694
          have z_w693 := E694.size
          have hv := hv.keep E694 (fun k hk => .inr (by simp at hk; omega))
          have hR680 := hR680.keep E694 (fun k hk => .inr (by simp at hk; omega))
          have hb := below_step1 hb E694 hb.size (by omega)
          refine op_assign rfl ?_
          refine op_assign rfl ?_
          refine reg_nil ?_
          refine hK690 _ _ ?_
          refine wp_ret (blk_ret (then_ret ( ?_)))
          refine retN (rs := [.cell 2 50, .tmp 3, .tmp 4]) (vs := [(Value.agg #[(Value.int .i64 1), (Value.int .i64 (((ofBe (((bl.drop 1).take 8).take i) : Nat) : Int) - 9223372036854775808)), (Value.string (bs []))]), (Value.int .i64 9), (Value.int .i64 0)]) rfl hd681 ⟨⟨_, (ev_base hN681 rfl s681_2), run_loadA (cs := [(Value.int .i64 1), (Value.int .i64 (((ofBe (((bl.drop 1).take 8).take i) : Nat) : Int) - 9223372036854775808)), (Value.string (bs []))]) agg50 rfl (fun j u hu => by rw [Nat.zero_add]; exact hB655.cell hu)⟩, ⟨(ev_hit hN681 rfl), ⟨(ev_hit hN681 rfl), trivial⟩⟩⟩ rfl ⟨_, rfl, ?_⟩
          -- path 10F 16T 19F 25F
          have h8 : i = 8 := by omega
          have e8 : ((bl.drop 1).take 8).take i = ((bl.drop 1).take 8) := by rw [h8]; try exact List.take_of_length_le (by omega)
          have hq : takeV bl = (⟨1, (ofBe ((bl.drop 1).take 8) : Int) - 9223372036854775808, []⟩, 9, 0) := by rw [take_cons (by omega), if_pos (by omega), if_neg (by omega)]
          rw [hq, e8]
          exact ⟨hb, rfl⟩
    · -- 16 False
      refine op_assign (ev_hit hN rfl) ?_
      refine reg_nil ?_
      refine hK668 _ _ ?_
      refine wp_cond_false (ev_hit hN rfl) ?_
      refine seq_any fun K695 hK695 => ?_
      refine one_reg ?_
      refine op_eql (ev_hit hN rfl) rfl (fun c39 => ?_) (fun c39 => ?_)
      · -- 39 True
        refine op_assign (ev_hit hN rfl) ?_
        refine reg_nil ?_
        refine hK695 _ _ ?_
        refine wp_cond_true (ev_hit hN rfl) ?_
        refine seq_any fun K696 hK696 => ?_
        refine one_reg ?_
        refine op_move (ev_base hN rfl s0) ?_
        refine op_slice_rd (lo := 1) (hi := bl.length) slt22 (ev_hit hN rfl) hv (.inr ⟨_, _, rfl, rfl⟩) (.inl ⟨rfl, rfl⟩) (by omega) (by omega) ?_
        intro v697 hR698
        have hR698 : RdC w652 0 w.heap.size 1 v697 (bl.length - 1) (((bl.drop 1)).map u8v) := by simpa [List.map_drop, List.map_take, List.take_of_length_le] using hR698
        have hq699 : RdC w652 0 w652.heap.size 1 v697 (bl.drop 1).length ((bl.drop 1).map u8v) := by have hh : RdC w652 0 w652.heap.size 1 _ _ _ := (hR698.mono (L' := 0) (B' := w652.heap.size) (Nat.zero_le _) (by omega)); first | simpa using hh | simpa [Nat.add_comm, Nat.add_left_comm, Nat.add_assoc] using hh
        refine op_fn (vs := [v697]) ok72 ⟨(ev_hit hN rfl), trivial⟩ (text_ret (bl.drop 1) v697 _ (by first | assumption | omega | (simp only [List.length_append, List.length_cons, List.length_nil, List.length_drop, List.length_take]; omega) | (dsimp only; omega) | decide | (simp [keyV, be8_len]; done)) hq699) ?_
        rintro _ w700 ⟨E701, rfl⟩
        have E701 := grown_of_below E701
        have z_w700 := E701.size
        have hv := hv.keep0 E701
        have hB655 := hB655.keep0 E701
        have hR698 := hR698.keep0 E701
        have hb := below_step0 hb E701 hb.size
        refine op_extract (ev_hit hN rfl) rfl ?_
        refine op_extract (ev_hit hN rfl) rfl ?_
        refine op_extract (ev_hit hN rfl) rfl ?_
        have hB655_old := hB655
        refine op_store (vs := [(Value.int .i64 (textR (bl.drop 1)).1.k), (Value.int .i64 (textR (bl.drop 1)).1.n), (Value.string (bs (textR (bl.drop 1)).1.s))]) (cs' := [(Value.int .i64 (textR (bl.drop 1)).1.k), (Value.int .i64 (textR (bl.drop 1)).1.n), (Value.string (bs (textR (bl.drop 1)).1.s))]) size50 (ev_hit hN rfl) (ev_hit hN rfl) rfl rfl rfl hB655 (Nat.le_of_ble_eq_true rfl) rfl ?_
        intro w704 hB655 E705
        have z_w704 := E705.size
        have hv := hv.keep E705 (fun k hk => .inr (by simp at hk; omega))
        have hR698 := hR698.keep E705 (fun k hk => .inr (by simp at hk; omega))
        have hb := below_step1 hb E705 hb.size (by omega)
        refine op_assign (ev_hit hN rfl) ?_
        refine op_assign (ev_hit hN rfl) ?_
        refine reg_nil ?_
        refine hK696 _ _ ?_
        refine wp_ret (blk_ret (then_ret ( ?_)))
        refine retN (rs := [.cell 2 50, .tmp 3, .tmp 4]) (vs := [(Value.agg #[(Value.int .i64 (textR (bl.drop 1)).1.k), (Value.int .i64 (textR (bl.drop 1)).1.n), (Value.string (bs (textR (bl.drop 1)).1.s))]), (Value.int .i64 (textR (bl.drop 1)).2.1), (Value.int .i64 (textR (bl.drop 1)).2.2)]) rfl hd ⟨⟨_, (ev_hit hN rfl), run_loadA (cs := [(Value.int .i64 (textR (bl.drop 1)).1.k), (Value.int .i64 (textR (bl.drop 1)).1.n), (Value.string (bs (textR (bl.drop 1)).1.s))]) agg50 rfl (fun j u hu => by rw [Nat.zero_add]; exact hB655.cell hu)⟩, ⟨(ev_hit hN rfl), ⟨(ev_hit hN rfl), trivial⟩⟩⟩ rfl ⟨_, rfl, ?_⟩
        -- path 10F 16F 39T
        have hq : takeV bl = textR (bl.drop 1) := by rw [take_cons (by omega), if_neg (by omega), if_pos (by omega)]
        rw [hq]
        exact ⟨hb, rfl⟩
      · -- 39 False
        refine op_assign (ev_hit hN rfl) ?_
        refine reg_nil ?_
        refine hK695 _ _ ?_
        refine wp_cond_false (ev_hit hN rfl) ?_
        refine wp_skip ?_
        refine hK663 _ _ ?_
        refine seq_any fun K706 hK706 => ?_
        refine one_reg ?_
        refine op_loadA (cs := [(Value.int .i64 0), (Value.int .i64 0), (Value.string (bs []))]) agg50 rfl (ev_hit hN rfl) (fun j u hu => by rw [Nat.zero_add]; exact hB655.cell hu) ?_
        have hB655_old := hB655
        refine op_store (vs := [(Value.int .i64 0), (Value.int .i64 0), (Value.string (bs []))]) (cs' := [(Value.int .i64 0), (Value.int .i64 0), (Value.string (bs []))]) size50 (ev_hit hN rfl) (ev_hit hN rfl) rfl rfl rfl hB655 (Nat.le_of_ble_eq_true rfl) rfl ?_
        intro w709 hB655 E710
        have z_w709 := E710.size
        have hv := hv.keep E710 (fun k hk => .inr (by simp at hk; omega))
        have hb := below_step1 hb E710 hb.size (by omega)
        refine op_assign rfl ?_
        refine op_assign rfl ?_
        refine reg_nil ?_
        refine hK706 _ _ ?_
        refine wp_ret ?_
        refine retN (rs := [.cell 2 50, .tmp 3, .tmp 4]) (vs := [(Value.agg #[(Value.int .i64 0), (Value.int .i64 0), (Value.string (bs []))]), (Value.int .i64 0), (Value.int .i64 3)]) rfl hd ⟨⟨_, (ev_hit hN rfl), run_loadA (cs := [(Value.int .i64 0), (Value.int .i64 0), (Value.string (bs []))]) agg50 rfl (fun j u hu => by rw [Nat.zero_add]; exact hB655.cell hu)⟩, ⟨(ev_hit hN rfl), ⟨(ev_hit hN rfl), trivial⟩⟩⟩ rfl ⟨_, rfl, ?_⟩
        -- path 10F 16F 39F
        have hq : takeV bl = (V0, 0, 3) := by rw [take_cons (by omega), if_neg (by omega), if_neg (by omega)]
        rw [hq]
        exact ⟨hb, rfl⟩

theorem TakeKey_ret (bl : List UInt8) (v : Value) (w : World) (hl : bl.length ≤ 1000000000000) (hv : RdC w 0 w.heap.size 1 v bl.length (bl.map u8v)) : Ret Try.prog 41 #[v] w (fun v' w' => Below w.heap.size w w' ∧ v' = (Value.tuple #[(Value.agg #[(Value.int .i64 (takeV bl).1.k), (Value.int .i64 (takeV bl).1.n), (Value.string (bs (takeV bl).1.s))]), (Value.int .i64 (takeV bl).2.1), (Value.int .i64 (takeV bl).2.2)])) := by
  have hb := Below.refl w.heap.size w
  refine enter (N := 77) Try.func41 rfl rfl (by simp) fun a0 hN hd hA => ?_
  have s0 : a0.tmps.getD 0 undef = v := hA 0 (by simp)
  clear hA
  refine seq_any fun K711 hK711 => ?_
  refine one_reg ?_
  refine op_alloc (cs := [(Value.int .i64 0), (Value.int .i64 0), (Value.string (bs []))]) zero50 rfl ?_
  intro w712 b713 lo_b713 hi_b713 hB715 E714
  have z_w712 := E714.size
  have hv := hv.keep0 E714
  have hb := below_step0 hb E714 hb.size
  refine op_assign rfl ?_
  refine op_assign rfl ?_
  refine reg_nil ?_
  refine hK711 _ _ ?_
  refine seq_any fun K716 hK716 => ?_
  refine seq_any fun K717 hK717 => ?_
  refine one_reg ?_
  refine op_move (ev_base hN rfl s0) ?_
  refine op_len_rd Try.underlying22 (ev_hit hN rfl) hv ?_
  refine op_lss (ev_hit hN rfl) rfl (fun c10 => ?_) (fun c10 => ?_)
  · -- 10 True
    refine reg_nil ?_
    refine hK717 _ _ ?_
    refine wp_cond_true (ev_hit hN rfl) ?_
    refine seq_any fun K718 hK718 => ?_
    refine one_reg ?_
    refine op_build (pv := []) (v := (Value.agg #[(Value.int .i64 0), (Value.int .i64 0), (Value.string (bs []))])) trivial (by kernel_rfl) ?_
    have hB715_old := hB715
    refine op_store (vs := [(Value.int .i64 0), (Value.int .i64 0), (Value.string (bs []))]) (cs' := [(Value.int .i64 0), (Value.int .i64 0), (Value.string (bs []))]) size50 (ev_hit hN rfl) (ev_hit hN rfl) rfl rfl rfl hB715 (Nat.le_of_ble_eq_true rfl) rfl ?_
    intro w721 hB715 E722
    have z_w721 := E722.size
    have hv := hv.keep E722 (fun k hk => .inr (by simp at hk; omega))
    have hb := below_step1 hb E722 hb.size (by omega)
    refine op_assign rfl ?_
    refine op_assign rfl ?_
    refine reg_nil ?_
    refine hK718 _ _ ?_
    refine wp_ret (then_ret ( ?_))
    refine retN (rs := [.cell 2 50, .tmp 3, .tmp 4]) (vs := [(Value.agg #[(Value.int .i64 0), (Value.int .i64 0), (Value.string (bs []))]), (Value.int .i64 0), (Value.int .i64 2)]) rfl hd ⟨⟨_, (ev_hit hN rfl), run_loadA (cs := [(Value.int .i64 0), (Value.int .i64 0), (Value.string (bs []))]) agg50 rfl (fun j u hu => by rw [Nat.zero_add]; exact hB715.cell hu)⟩, ⟨(ev_hit hN rfl), ⟨(ev_hit hN rfl), trivial⟩⟩⟩ rfl ⟨_, rfl, ?_⟩
    -- path 10T
    have hq : takeV bl = (V0, 0, 2) := take_lo (List.length_eq_zero_iff.1 (by omega))
    rw [hq]
    exact ⟨hb, rfl⟩
  · -- 10 False
    refine reg_nil ?_
    refine hK717 _ _ ?_
    refine wp_cond_false (ev_hit hN rfl) ?_
    refine wp_skip ?_
    refine hK716 _ _ ?_
    refine seq_any fun K723 hK723 => ?_
    refine seq_any fun K724 hK724 => ?_
    refine one_reg ?_
    refine op_move (ev_base hN rfl s0) ?_
    refine op_index_rd slt22 (ev_hit hN rfl) hv rfl (by omega) (by omega) ?_
    intro b725 o726 _ _ hc727
    refine op_load1 (v := (Value.int .u8 ((bl.getD 0 0).toNat : Int))) one5 (ev_hit hN rfl) (by have := hc727 0 (Value.int .u8 ((bl.getD 0 0).toNat : Int)) (by decide) (el_u8 (i := 0) (by omega) (by omega)); simpa using this) ?_
    refine op_eql (ev_hit hN rfl) rfl (fun c15 => ?_) (fun c15 => ?_)
    · -- 15 True
      refine reg_nil ?_
      refine hK724 _ _ ?_
      refine wp_cond_true (ev_hit hN rfl) ?_
      refine seq_any fun K728 hK728 => ?_
      refine seq_any fun K729 hK729 => ?_
      refine one_reg ?_
      refine op_move (ev_base hN rfl s0) ?_
      refine op_len_rd Try.underlying22 (ev_hit hN rfl) hv ?_
      refine op_lss (ev_hit hN rfl) rfl (fun c18 => ?_) (fun c18 => ?_)
      · -- 18 True
        refine reg_nil ?_
        refine hK729 _ _ ?_
        refine wp_cond_true (ev_hit hN rfl) ?_
        refine seq_any fun K730 hK730 => ?_
        refine one_reg ?_
        refine op_build (pv := []) (v := (Value.agg #[(Value.int .i64 0), (Value.int .i64 0), (Value.string (bs []))])) trivial (by kernel_rfl) ?_
        have hB715_old := hB715
        refine op_store (vs := [(Value.int .i64 0), (Value.int .i64 0), (Value.string (bs []))]) (cs' := [(Value.int .i64 0), (Value.int .i64 0), (Value.string (bs []))]) size50 (ev_hit hN rfl) (ev_hit hN rfl) rfl rfl rfl hB715 (Nat.le_of_ble_eq_true rfl) rfl ?_
        intro w733 hB715 E734
        have z_w733 := E734.size
        have hv := hv.keep E734 (fun k hk => .inr (by simp at hk; omega))
        have hb := below_step1 hb E734 hb.size (by omega)
        refine op_assign rfl ?_
        refine op_assign rfl ?_
        refine reg_nil ?_
        refine hK730 _ _ ?_
        refine wp_ret (then_ret (then_ret ( ?_)))
        refine retN (rs := [.cell 2 50, .tmp 3, .tmp 4]) (vs := [(Value.agg #[(Value.int .i64 0), (Value.int .i64 0), (Value.string (bs []))]), (Value.int .i64 0), (Value.int .i64 2)]) rfl hd ⟨⟨_, (ev_hit hN rfl), run_loadA (cs := [(Value.int .i64 0), (Value.int .i64 0), (Value.string (bs []))]) agg50 rfl (fun j u hu => by rw [Nat.zero_add]; exact hB715.cell hu)⟩, ⟨(ev_hit hN rfl), ⟨(ev_hit hN rfl), trivial⟩⟩⟩ rfl ⟨_, rfl, ?_⟩
        -- path 10F 15T 18T
        have hq : takeV bl = (V0, 0, 2) := by rw [take_cons (by omega), if_pos (by omega), if_pos (by omega)]
        rw [hq]
        exact ⟨hb, rfl⟩
      · -- 18 False
        refine reg_nil ?_
        refine hK729 _ _ ?_
        refine wp_cond_false (ev_hit hN rfl) ?_
        refine wp_skip ?_
        refine hK728 _ _ ?_
        refine seq_any fun K735 hK735 => ?_
        refine one_reg ?_
        refine op_assign rfl ?_
        refine reg_nil ?_
        refine hK735 _ _ ?_
        refine seq_any fun K736 hK736 => ?_
        refine seq_any fun K737 hK737 => ?_
        refine one_reg ?_
        refine op_assign rfl ?_
        refine reg_nil ?_
        refine hK737 _ _ ?_
        refine wp_block ?_
        refine loop_m (fun m a w' => ∃ (i : Nat), m = 8 - i ∧ (a.tmps.getD 0 undef = v) ∧ (a.tmps.getD 2 undef = (ptr b713 0)) ∧ (a.tmps.getD 3 undef = (Value.int .i64 0)) ∧ (a.tmps.getD 4 undef = (Value.int .i64 0)) ∧ (a.tmps.getD 8 undef = v) ∧ (a.tmps.getD 9 undef = (Value.int .i64 ((bl.length : Nat) : Int))) ∧ (a.tmps.getD 10 undef = (Value.bool false)) ∧ (a.tmps.getD 12 undef = v) ∧ (a.tmps.getD 13 undef = (ptr b725 o726)) ∧ (a.tmps.getD 14 undef = (Value.int .u8 ((bl.getD 0 0).toNat : Int))) ∧ (a.tmps.getD 15 undef = (Value.bool true)) ∧ (a.tmps.getD 16 undef = v) ∧ (a.tmps.getD 17 undef = (Value.int .i64 ((bl.length : Nat) : Int))) ∧ (a.tmps.getD 18 undef = (Value.bool false)) ∧ (a.tmps.getD 6 undef = (Value.int .i64 (1 + (i : Int)))) ∧ (a.tmps.getD 5 undef = (Value.int .u64 ((ofBe ((bl.drop 1).take i) : Nat) : Int))) ∧ (i ≤ 8) ∧ w712 = w') _ hN hd ⟨0, rfl, (sl_base hN rfl s0), (sl_hit hN rfl), (sl_hit hN rfl), (sl_hit hN rfl), (sl_hit hN rfl), (sl_hit hN rfl), (sl_hit hN rfl), (sl_hit hN rfl), (sl_hit hN rfl), (sl_hit hN rfl), (sl_hit hN rfl), (sl_hit hN rfl), (sl_hit hN rfl), (sl_hit hN rfl), (sl_hit hN rfl), (sl_hit hN rfl), Nat.zero_le _, rfl⟩ ?_
        rintro _ a738 _ hN738 hd738 ⟨i, rfl, s738_0, s738_2, s738_3, s738_4, s738_8, s738_9, s738_10, s738_12, s738_13, s738_14, s738_15, s738_16, s738_17, s738_18, s738_6, s738_5, hi, rfl⟩
        refine seq_any fun K739 hK739 => ?_
        refine seq_any fun K740 hK740 => ?_
        refine one_reg ?_
        refine op_move (ev_base hN738 rfl s738_6) ?_
        refine op_lss (ev_hit hN738 rfl) rfl (fun c21 => ?_) (fun c21 => ?_)
        · -- 21 True
          refine reg_nil ?_
          refine hK740 _ _ ?_
          refine wp_cond_true (ev_hit hN738 rfl) ?_
          refine wp_skip ?_
          refine hK739 _ _ ?_
          refine seq_any fun K741 hK741 => ?_
          refine wp_block ?_
          refine one_reg ?_
          have hsm := ofBe_small (l := ((bl.drop 1).take i)) (by simp; omega)
          refine op_move (ev_base hN738 rfl s738_5) ?_
          refine op_mul (r := (((ofBe ((bl.drop 1).take i) : Nat) : Int) * 256)) (ev_hit hN738 rfl) rfl (wrap_u64 (by omega)) ?_
          refine op_move (ev_base hN738 rfl s738_0) ?_
          refine op_move (ev_base hN738 rfl s738_6) ?_
          refine op_index_rd slt22 (ev_hit hN738 rfl) hv (ev_hit hN738 rfl) (by omega) (by omega) ?_
          intro b742 o743 _ _ hc744
          refine op_load1 (v := (Value.int .u8 ((bl.getD (1 + i) 0).toNat : Int))) one5 (ev_hit hN738 rfl) (by have := hc744 0 (Value.int .u8 ((bl.getD (1 + i) 0).toNat : Int)) (by decide) (el_u8 (i := (1 + i)) (by omega) (by omega)); simpa using this) ?_
          refine op_conv (r := ((bl.getD (1 + i) 0).toNat : Int)) (ev_hit hN738 rfl) us5 Try.underlying76 (wrap_u64 (u8_rng _)) ?_
          refine op_add (r := (((ofBe ((bl.drop 1).take i) : Nat) : Int) * 256 + ((bl.getD (1 + i) 0).toNat : Int))) (ev_hit hN738 rfl) (ev_hit hN738 rfl) (wrap_u64 (by have := (bl.getD (1 + i) 0).toNat_lt; omega)) ?_
          refine op_assign (ev_hit hN738 rfl) ?_
          refine reg_nil ?_
          refine hK741 _ _ ?_
          refine one_reg ?_
          refine op_move (ev_base hN738 rfl s738_6) ?_
          refine op_add (ev_hit hN738 rfl) rfl (add64 (by omega)) ?_
          refine op_assign (ev_hit hN738 rfl) ?_
          refine reg_nil ?_
          -- round 10F 15T 18F 21T
          exact loop_next _ hN738 hd738 ⟨i + 1, rfl, (sl_base hN738 rfl s738_0), (sl_base hN738 rfl s738_2), (sl_base hN738 rfl s738_3), (sl_base hN738 rfl s738_4), (sl_base hN738 rfl s738_8), (sl_base hN738 rfl s738_9), (sl_base hN738 rfl s738_10), (sl_base hN738 rfl s738_12), (sl_base hN738 rfl s738_13), (sl_base hN738 rfl s738_14), (sl_base hN738 rfl s738_15), (sl_base hN738 rfl s738_16), (sl_base hN738 rfl s738_17), (sl_base hN738 rfl s738_18), (sl_hit hN738 rfl).trans (congrArg (Value.int .i64) (by omega)), (sl_hit hN738 rfl).trans (congrArg (Value.int .u64) (by rw [take_snoc (l := bl.drop 1) (i := i) (by simp; omega), ofBe_snoc, drop1_get]; simp)), (by omega), rfl⟩ (by omega)
        · -- 21 False
          refine reg_nil ?_
          refine hK740 _ _ ?_
          refine wp_cond_false (ev_hit hN738 rfl) ?_
          refine wp_exit (then_exit (then_exit (blk_hit ?_)))
          refine hK736 _ _ ?_
          refine seq_any fun K745 hK745 => ?_
          refine one_reg ?_
          have hbig := ofBe_8 (l := ((bl.drop 1).take i)) (by simp; omega)
          refine op_move (ev_base hN738 rfl s738_5) ?_
          refine op_xor (r := (if ofBe (((bl.drop 1).take i)) < 9223372036854775808 then ((ofBe (((bl.drop 1).take i)) : Nat) : Int) + 9223372036854775808 else ((ofBe (((bl.drop 1).take i)) : Nat) : Int) - 9223372036854775808)) (ev_hit hN738 rfl) rfl (xor_high hbig) ?_
          refine op_conv (r := (((ofBe (((bl.drop 1).take i)) : Nat) : Int) - 9223372036854775808)) (ev_hit hN738 rfl) us76 Try.underlying2 (i64_down hbig) ?_
          refine op_build (pv := [(0, (Value.int .i64 1)), (1, (Value.int .i64 (((ofBe (((bl.drop 1).take i)) : Nat) : Int) - 9223372036854775808)))]) (v := (Value.agg #[(Value.int .i64 1), (Value.int .i64 (((ofBe (((bl.drop 1).take i)) : Nat) : Int) - 9223372036854775808)), (Value.string (bs []))])) ⟨rfl, rfl, ⟨rfl, (ev_hit hN738 rfl), trivial⟩⟩ (by kernel_rfl) ?_
          have hB715_old := hB715
          refine op_store (vs := [(Value.int .i64 1), (Value.int .i64 (((ofBe (((bl.drop 1).take i)) : Nat) : Int) - 9223372036854775808)), (Value.string (bs []))]) (cs' := [(Value.int .i64 1), (Value.int .i64 (((ofBe (((bl.drop 1).take i)) : Nat) : Int) - 9223372036854775808)), (Value.string (bs []))]) size50 (ev_base hN738 rfl s738_2) (ev_hit hN738 rfl) rfl rfl rfl hB715 (Nat.le_of_ble_eq_true rfl) rfl ?_
          intro w748 hB715 E749
          have z_w748 := E749.size
          have hv := hv.keep E749 (fun k hk => .inr (by simp at hk; omega))
          have hb := below_step1 hb E749 hb.size (by omega)
          refine op_assign rfl ?_
          refine op_assign rfl ?_
          refine reg_nil ?_
          refine hK745 _ _ ?_
          refine wp_ret (then_ret ( ?_))
          refine retN (rs := [.cell 2 50, .tmp 3, .tmp 4]) (vs := [(Value.agg #[(Value.int .i64 1), (Value.int .i64 (((ofBe (((bl.drop 1).take i)) : Nat) : Int) - 9223372036854775808)), (Value.string (bs []))]), (Value.int .i64 9), (Value.int .i64 0)]) rfl hd738 ⟨⟨_, (ev_base hN738 rfl s738_2), run_loadA (cs := [(Value.int .i64 1), (Value.int .i64 (((ofBe (((bl.drop 1).take i)) : Nat) : Int) - 9223372036854775808)), (Value.string (bs []))]) agg50 rfl (fun j u hu => by rw [Nat.zero_add]; exact hB715.cell hu)⟩, ⟨(ev_hit hN738 rfl), ⟨(ev_hit hN738 rfl), trivial⟩⟩⟩ rfl ⟨_, rfl, ?_⟩
          -- path 10F 15T 18F 21F
          have h8 : i = 8 := by omega
          have e8 : ((bl.drop 1).take i) = ((bl.drop 1).take 8) := by rw [h8]; try exact List.take_of_length_le (by omega)
          have hq : takeV bl = (⟨1, (ofBe ((bl.drop 1).take 8) : Int) - 9223372036854775808, []⟩, 9, 0) := by rw [take_cons (by omega), if_pos (by omega), if_neg (by omega)]
          rw [hq, e8]
          exact ⟨hb, rfl⟩
    · -- 15 False
      refine reg_nil ?_
      refine hK724 _ _ ?_
      refine wp_cond_false (ev_hit hN rfl) ?_
      refine wp_skip ?_
      refine hK723 _ _ ?_
      refine seq_any fun K750 hK750 => ?_
      refine seq_any fun K751 hK751 => ?_
      refine one_reg ?_
      refine op_move (ev_base hN rfl s0) ?_
      refine op_index_rd slt22 (ev_hit hN rfl) hv rfl (by omega) (by omega) ?_
      intro b752 o753 _ _ hc754
      refine op_load1 (v := (Value.int .u8 ((bl.getD 0 0).toNat : Int))) one5 (ev_hit hN rfl) (by have := hc754 0 (Value.int .u8 ((bl.getD 0 0).toNat : Int)) (by decide) (el_u8 (i := 0) (by omega) (by omega)); simpa using this) ?_
      refine op_neq (ev_hit hN rfl) rfl (fun c39 => ?_) (fun c39 => ?_)
      · -- 39 True
        refine reg_nil ?_
        refine hK751 _ _ ?_
        refine wp_cond_true (ev_hit hN rfl) ?_
        refine seq_any fun K755 hK755 => ?_
        refine one_reg ?_
        refine op_build (pv := []) (v := (Value.agg #[(Value.int .i64 0), (Value.int .i64 0), (Value.string (bs []))])) trivial (by kernel_rfl) ?_
        have hB715_old := hB715
        refine op_store (vs := [(Value.int .i64 0), (Value.int .i64 0), (Value.string (bs []))]) (cs' := [(Value.int .i64 0), (Value.int .i64 0), (Value.string (bs []))]) size50 (ev_hit hN rfl) (ev_hit hN rfl) rfl rfl rfl hB715 (Nat.le_of_ble_eq_true rfl) rfl ?_
        intro w758 hB715 E759
        have z_w758 := E759.size
        have hv := hv.keep E759 (fun k hk => .inr (by simp at hk; omega))
        have hb := below_step1 hb E759 hb.size (by omega)
        refine op_assign rfl ?_
        refine op_assign rfl ?_
        refine reg_nil ?_
        refine hK755 _ _ ?_
        refine wp_ret (then_ret ( ?_))
        refine retN (rs := [.cell 2 50, .tmp 3, .tmp 4]) (vs := [(Value.agg #[(Value.int .i64 0), (Value.int .i64 0), (Value.string (bs []))]), (Value.int .i64 0), (Value.int .i64 3)]) rfl hd ⟨⟨_, (ev_hit hN rfl), run_loadA (cs := [(Value.int .i64 0), (Value.int .i64 0), (Value.string (bs []))]) agg50 rfl (fun j u hu => by rw [Nat.zero_add]; exact hB715.cell hu)⟩, ⟨(ev_hit hN rfl), ⟨(ev_hit hN rfl), trivial⟩⟩⟩ rfl ⟨_, rfl, ?_⟩
        -- path 10F 15F 39T
        have hq : takeV bl = (V0, 0, 3) := by rw [take_cons (by omega), if_neg (by omega), if_neg (by omega)]
        rw [hq]
        exact ⟨hb, rfl⟩
      · -- 39 False
        refine reg_nil ?_
        refine hK751 _ _ ?_
        refine wp_cond_false (ev_hit hN rfl) ?_
        refine wp_skip ?_
        refine hK750 _ _ ?_
        refine seq_any fun K760 hK760 => ?_
        refine seq_any fun K761 hK761 => ?_
        refine one_reg ?_
        refine op_assign rfl ?_
        refine reg_nil ?_
        refine hK761 _ _ ?_
        refine wp_block ?_
        refine loop_m (fun m a w' => ∃ (i : Nat), m = bl.length - i ∧ (a.tmps.getD 0 undef = v) ∧ (a.tmps.getD 2 undef = (ptr b713 0)) ∧ (a.tmps.getD 8 undef = v) ∧ (a.tmps.getD 9 undef = (Value.int .i64 ((bl.length : Nat) : Int))) ∧ (a.tmps.getD 10 undef = (Value.bool false)) ∧ (a.tmps.getD 12 undef = v) ∧ (a.tmps.getD 13 undef = (ptr b725 o726)) ∧ (a.tmps.getD 14 undef = (Value.int .u8 ((bl.getD 0 0).toNat : Int))) ∧ (a.tmps.getD 15 undef = (Value.bool false)) ∧ (a.tmps.getD 36 undef = v) ∧ (a.tmps.getD 37 undef = (ptr b752 o753)) ∧ (a.tmps.getD 38 undef = (Value.int .u8 ((bl.getD 0 0).toNat : Int))) ∧ (a.tmps.getD 39 undef = (Value.bool false)) ∧ (a.tmps.getD 7 undef = (Value.int .i64 (1 + (i : Int)))) ∧ (i ≤ bl.length - 1) ∧ (i ≤ 30) ∧ (scanT (bl.drop 1) 0 = scanT ((bl.drop 1).drop i) i) ∧ w712 = w') _ hN hd ⟨0, rfl, (sl_base hN rfl s0), (sl_hit hN rfl), (sl_hit hN rfl), (sl_hit hN rfl), (sl_hit hN rfl), (sl_hit hN rfl), (sl_hit hN rfl), (sl_hit hN rfl), (sl_hit hN rfl), (sl_hit hN rfl), (sl_hit hN rfl), (sl_hit hN rfl), (sl_hit hN rfl), (sl_hit hN rfl), Nat.zero_le _, Nat.zero_le _, rfl, rfl⟩ ?_
        rintro _ a762 _ hN762 hd762 ⟨i, rfl, s762_0, s762_2, s762_8, s762_9, s762_10, s762_12, s762_13, s762_14, s762_15, s762_36, s762_37, s762_38, s762_39, s762_7, hi, h30, he, rfl⟩
        refine seq_any fun K763 hK763 => ?_
        refine seq_any fun K764 hK764 => ?_
        refine one_reg ?_
        refine op_move (ev_base hN762 rfl s762_7) ?_
        refine op_move (ev_base hN762 rfl s762_0) ?_
        refine op_len_rd Try.underlying22 (ev_hit hN762 rfl) hv ?_
        refine op_lss (ev_hit hN762 rfl) (ev_hit hN762 rfl) (fun c44 => ?_) (fun c44 => ?_)
        · -- 44 True
          refine reg_nil ?_
          refine hK764 _ _ ?_
          refine wp_cond_true (ev_hit hN762 rfl) ?_
          refine wp_skip ?_
          refine hK763 _ _ ?_
          refine seq_any fun K765 hK765 => ?_
          refine wp_block ?_
          refine seq_any fun K766 hK766 => ?_
          refine seq_any fun K767 hK767 => ?_
          refine one_reg ?_
          refine op_move (ev_base hN762 rfl s762_0) ?_
          refine op_move (ev_base hN762 rfl s762_7) ?_
          refine op_index_rd slt22 (ev_hit hN762 rfl) hv (ev_hit hN762 rfl) (by omega) (by omega) ?_
          intro b768 o769 _ _ hc770
          refine op_load1 (v := (Value.int .u8 ((bl.getD (1 + i) 0).toNat : Int))) one5 (ev_hit hN762 rfl) (by have := hc770 0 (Value.int .u8 ((bl.getD (1 + i) 0).toNat : Int)) (by decide) (el_u8 (i := (1 + i)) (by omega) (by omega)); simpa using this) ?_
          refine op_eql (ev_hit hN762 rfl) rfl (fun c51 => ?_) (fun c51 => ?_)
          · -- 51 True
            refine reg_nil ?_
            refine hK767 _ _ ?_
            refine wp_cond_true (ev_hit hN762 rfl) ?_
            refine seq_any fun K771 hK771 => ?_
            refine one_reg ?_
            refine op_move (ev_base hN762 rfl s762_0) ?_
            refine op_move (ev_base hN762 rfl s762_7) ?_
            refine op_slice_rd (lo := 1) (hi := (1 + i)) slt22 (ev_hit hN762 rfl) hv (.inr ⟨_, _, rfl, rfl⟩) (.inr ⟨_, _, rfl, (ev_hit hN762 rfl).trans (congrArg (Value.int _) (by omega))⟩) (by omega) (by omega) ?_
            intro v772 hR773
            have hR773 : RdC w712 0 w.heap.size 1 v772 i ((((bl.drop 1).take i)).map u8v) := by simpa [List.map_drop, List.map_take] using hR773
            refine op_str_of (bl := ((bl.drop 1).take i)) Try.underlying22 Try.underlying5 Try.underlying9 (ev_hit hN762 rfl) hR773 ?_
            refine op_build (pv := [(0, (Value.int .i64 2)), (2, (Value.string (bs ((bl.drop 1).take i))))]) (v := (Value.agg #[(Value.int .i64 2), (Value.int .i64 0), (Value.string (bs ((bl.drop 1).take i)))])) ⟨rfl, rfl, ⟨rfl, (ev_hit hN762 rfl), trivial⟩⟩ (by kernel_rfl) ?_
            refine op_move (ev_base hN762 rfl s762_7) ?_
            refine op_add (ev_hit hN762 rfl) rfl (add64 (by omega)) ?_
            have hB715_old := hB715
            refine op_store (vs := [(Value.int .i64 2), (Value.int .i64 0), (Value.string (bs ((bl.drop 1).take i)))]) (cs' := [(Value.int .i64 2), (Value.int .i64 0), (Value.string (bs ((bl.drop 1).take i)))]) size50 (ev_base hN762 rfl s762_2) (ev_hit hN762 rfl) rfl rfl rfl hB715 (Nat.le_of_ble_eq_true rfl) rfl ?_
            intro w776 hB715 E777
            have z_w776 := E777.size
            have hv := hv.keep E777 (fun k hk => .inr (by simp at hk; omega))
            have hR773 := hR773.keep E777 (fun k hk => .inr (by simp at hk; omega))
            have hb := below_step1 hb E777 hb.size (by omega)
            refine op_assign (ev_hit hN762 rfl) ?_
            refine op_assign rfl ?_
            refine reg_nil ?_
            refine hK771 _ _ ?_
            refine wp_ret (then_ret (blk_ret (then_ret (then_ret (blk_ret (then_ret ( ?_)))))))
            refine retN (rs := [.cell 2 50, .tmp 3, .tmp 4]) (vs := [(Value.agg #[(Value.int .i64 2), (Value.int .i64 0), (Value.string (bs ((bl.drop 1).take i)))]), (Value.int .i64 ((1 + (i : Int)) + 1)), (Value.int .i64 0)]) rfl hd762 ⟨⟨_, (ev_base hN762 rfl s762_2), run_loadA (cs := [(Value.int .i64 2), (Value.int .i64 0), (Value.string (bs ((bl.drop 1).take i)))]) agg50 rfl (fun j u hu => by rw [Nat.zero_add]; exact hB715.cell hu)⟩, ⟨(ev_hit hN762 rfl), ⟨(ev_hit hN762 rfl), trivial⟩⟩⟩ rfl ⟨_, rfl, ?_⟩
            -- path 10F 15F 39F 44T 51T
            have hq0 : takeV bl = textR (bl.drop 1) := by rw [take_cons (by omega), if_neg (by omega), if_pos (by omega)]
            have hq : textR (bl.drop 1) = (⟨2, 0, (bl.drop 1).take i⟩, (i : Int) + 2, 0) := textR_of (q := .inr i) (by rw [he, scan_step (by simp; omega), drop1_get, if_pos (by omega)])
            rw [hq0, hq]
            exact ⟨hb, congrArg (fun q => Value.tuple #[_, .int .i64 q, _]) (show (1 + (i : Int)) + 1 = (i : Int) + 2 by omega)⟩
          · -- 51 False
            refine reg_nil ?_
            refine hK767 _ _ ?_
            refine wp_cond_false (ev_hit hN762 rfl) ?_
            refine wp_skip ?_
            refine hK766 _ _ ?_
            refine seq_any fun K778 hK778 => ?_
            refine one_reg ?_
            refine op_move (ev_base hN762 rfl s762_0) ?_
            refine op_move (ev_base hN762 rfl s762_7) ?_
            refine op_index_rd slt22 (ev_hit hN762 rfl) hv (ev_hit hN762 rfl) (by omega) (by omega) ?_
            intro b779 o780 _ _ hc781
            refine op_load1 (v := (Value.int .u8 ((bl.getD (1 + i) 0).toNat : Int))) one5 (ev_hit hN762 rfl) (by have := hc781 0 (Value.int .u8 ((bl.getD (1 + i) 0).toNat : Int)) (by decide) (el_u8 (i := (1 + i)) (by omega) (by omega)); simpa using this) ?_
            refine op_lss (ev_hit hN762 rfl) rfl (fun c63 => ?_) (fun c63 => ?_)
            · -- 63 True
              refine op_move (ev_hit hN762 rfl) ?_
              refine g_false (j := 5) (dj := 64) (b := false) rfl rfl rfl (ev_hit hN762 rfl) rfl rfl ?_
              refine g_false (j := 5) (dj := 64) (b := false) rfl rfl rfl (ev_hit hN762 rfl) rfl rfl ?_
              refine g_false (j := 5) (dj := 64) (b := false) rfl rfl rfl (ev_hit hN762 rfl) rfl rfl ?_
              refine g_false (j := 5) (dj := 64) (b := false) rfl rfl rfl (ev_hit hN762 rfl) rfl rfl ?_
              refine g_false (j := 5) (dj := 64) (b := false) rfl rfl rfl (ev_hit hN762 rfl) rfl rfl ?_
              refine op_pick_t (ev_hit hN762 rfl) rfl ?_
              refine op_move (ev_hit hN762 rfl) ?_
              refine g_false (j := 12) (dj := 71) (b := false) rfl rfl rfl (ev_hit hN762 rfl) rfl rfl ?_
              refine g_false (j := 12) (dj := 71) (b := false) rfl rfl rfl (ev_hit hN762 rfl) rfl rfl ?_
              refine op_pick_t (ev_hit hN762 rfl) rfl ?_
              refine reg_nil ?_
              refine hK778 _ _ ?_
              refine wp_cond_true (ev_hit hN762 rfl) ?_
              refine seq_any fun K782 hK782 => ?_
              refine one_reg ?_
              refine op_build (pv := []) (v := (Value.agg #[(Value.int .i64 0), (Value.int .i64 0), (Value.string (bs []))])) trivial (by kernel_rfl) ?_
              have hB715_old := hB715
              refine op_store (vs := [(Value.int .i64 0), (Value.int .i64 0), (Value.string (bs []))]) (cs' := [(Value.int .i64 0), (Value.int .i64 0), (Value.string (bs []))]) size50 (ev_base hN762 rfl s762_2) (ev_hit hN762 rfl) rfl rfl rfl hB715 (Nat.le_of_ble_eq_true rfl) rfl ?_
              intro w785 hB715 E786
              have z_w785 := E786.size
              have hv := hv.keep E786 (fun k hk => .inr (by simp at hk; omega))
              have hb := below_step1 hb E786 hb.size (by omega)
              refine op_assign rfl ?_
              refine op_assign rfl ?_
              refine reg_nil ?_
              refine hK782 _ _ ?_
              refine wp_ret (blk_ret (then_ret (then_ret (blk_ret (then_ret ( ?_))))))
              refine retN (rs := [.cell 2 50, .tmp 3, .tmp 4]) (vs := [(Value.agg #[(Value.int .i64 0), (Value.int .i64 0), (Value.string (bs []))]), (Value.int .i64 0), (Value.int .i64 3)]) rfl hd762 ⟨⟨_, (ev_base hN762 rfl s762_2), run_loadA (cs := [(Value.int .i64 0), (Value.int .i64 0), (Value.string (bs []))]) agg50 rfl (fun j u hu => by rw [Nat.zero_add]; exact hB715.cell hu)⟩, ⟨(ev_hit hN762 rfl), ⟨(ev_hit hN762 rfl), trivial⟩⟩⟩ rfl ⟨_, rfl, ?_⟩
              -- path 10F 15F 39F 44T 51F 63T
              have hq0 : takeV bl = textR (bl.drop 1) := by rw [take_cons (by omega), if_neg (by omega), if_pos (by omega)]
              have hq : textR (bl.drop 1) = (V0, 0, 3) := textR_of (q := .inl 3) (by rw [he, scan_step (by simp; omega), drop1_get, if_neg (by omega), if_pos (.inr (okB_f (by omega)))])
              rw [hq0, hq]
              exact ⟨hb, rfl⟩
            · -- 63 False
              refine op_move (ev_hit hN762 rfl) ?_
              refine g_true (j := 5) (dj := 64) (b := false) rfl rfl rfl (ev_hit hN762 rfl) ?_
              refine op_move (ev_base hN762 rfl s762_0) ?_
              refine g_true (j := 5) (dj := 64) (b := false) rfl rfl rfl (ev_hit hN762 rfl) ?_
              refine op_move (ev_base hN762 rfl s762_7) ?_
              refine g_true (j := 5) (dj := 64) (b := false) rfl rfl rfl (ev_hit hN762 rfl) ?_
              refine op_index_rd slt22 (ev_hit hN762 rfl) hv (ev_hit hN762 rfl) (by omega) (by omega) ?_
              intro b787 o788 _ _ hc789
              refine g_true (j := 5) (dj := 64) (b := false) rfl rfl rfl (ev_hit hN762 rfl) ?_
              refine op_load1 (v := (Value.int .u8 ((bl.getD (1 + i) 0).toNat : Int))) one5 (ev_hit hN762 rfl) (by have := hc789 0 (Value.int .u8 ((bl.getD (1 + i) 0).toNat : Int)) (by decide) (el_u8 (i := (1 + i)) (by omega) (by omega)); simpa using this) ?_
              refine g_true (j := 5) (dj := 64) (b := false) rfl rfl rfl (ev_hit hN762 rfl) ?_
              refine op_gtr (ev_hit hN762 rfl) rfl (fun c69 => ?_) (fun c69 => ?_)
              · -- 69 True
                refine op_pick_f (ev_hit hN762 rfl) (ev_hit hN762 rfl) ?_
                refine op_move (ev_hit hN762 rfl) ?_
                refine g_false (j := 12) (dj := 71) (b := false) rfl rfl rfl (ev_hit hN762 rfl) rfl rfl ?_
                refine g_false (j := 12) (dj := 71) (b := false) rfl rfl rfl (ev_hit hN762 rfl) rfl rfl ?_
                refine op_pick_t (ev_hit hN762 rfl) rfl ?_
                refine reg_nil ?_
                refine hK778 _ _ ?_
                refine wp_cond_true (ev_hit hN762 rfl) ?_
                refine seq_any fun K790 hK790 => ?_
                refine one_reg ?_
                refine op_build (pv := []) (v := (Value.agg #[(Value.int .i64 0), (Value.int .i64 0), (Value.string (bs []))])) trivial (by kernel_rfl) ?_
                have hB715_old := hB715
                refine op_store (vs := [(Value.int .i64 0), (Value.int .i64 0), (Value.string (bs []))]) (cs' := [(Value.int .i64 0), (Value.int .i64 0), (Value.string (bs []))]) size50 (ev_base hN762 rfl s762_2) (ev_hit hN762 rfl) rfl rfl rfl hB715 (Nat.le_of_ble_eq_true rfl) rfl ?_
                intro w793 hB715 E794
                have z_w793 := E794.size
                have hv := hv.keep E794 (fun k hk => .inr (by simp at hk; omega))
                have hb := below_step1 hb E794 hb.size (by omega)
                refine op_assign rfl ?_
                refine op_assign rfl ?_
                refine reg_nil ?_
                refine hK790 _ _ ?_
                refine wp_ret (blk_ret (then_ret (then_ret (blk_ret (then_ret ( ?_))))))
                refine retN (rs := [.cell 2 50, .tmp 3, .tmp 4]) (vs := [(Value.agg #[(Value.int .i64 0), (Value.int .i64 0), (Value.string (bs []))]), (Value.int .i64 0), (Value.int .i64 3)]) rfl hd762 ⟨⟨_, (ev_base hN762 rfl s762_2), run_loadA (cs := [(Value.int .i64 0), (Value.int .i64 0), (Value.string (bs []))]) agg50 rfl (fun j u hu => by rw [Nat.zero_add]; exact hB715.cell hu)⟩, ⟨(ev_hit hN762 rfl), ⟨(ev_hit hN762 rfl), trivial⟩⟩⟩ rfl ⟨_, rfl, ?_⟩
                -- path 10F 15F 39F 44T 51F 63F 69T
                have hq0 : takeV bl = textR (bl.drop 1) := by rw [take_cons (by omega), if_neg (by omega), if_pos (by omega)]
                have hq : textR (bl.drop 1) = (V0, 0, 3) := textR_of (q := .inl 3) (by rw [he, scan_step (by simp; omega), drop1_get, if_neg (by omega), if_pos (.inr (okB_f (by omega)))])
                rw [hq0, hq]
                exact ⟨hb, rfl⟩
              · -- 69 False
                refine op_pick_f (ev_hit hN762 rfl) (ev_hit hN762 rfl) ?_
                refine op_move (ev_hit hN762 rfl) ?_
                refine g_true (j := 12) (dj := 71) (b := false) rfl rfl rfl (ev_hit hN762 rfl) ?_
                refine op_move (ev_base hN762 rfl s762_7) ?_
                refine g_true (j := 12) (dj := 71) (b := false) rfl rfl rfl (ev_hit hN762 rfl) ?_
                refine op_gtr (ev_hit hN762 rfl) rfl (fun c73 => ?_) (fun c73 => ?_)
                · -- 73 True
                  refine op_pick_f (ev_hit hN762 rfl) (ev_hit hN762 rfl) ?_
                  refine reg_nil ?_
                  refine hK778 _ _ ?_
                  refine wp_cond_true (ev_hit hN762 rfl) ?_
                  refine seq_any fun K795 hK795 => ?_
                  refine one_reg ?_
                  refine op_build (pv := []) (v := (Value.agg #[(Value.int .i64 0), (Value.int .i64 0), (Value.string (bs []))])) trivial (by kernel_rfl) ?_
                  have hB715_old := hB715
                  refine op_store (vs := [(Value.int .i64 0), (Value.int .i64 0), (Value.string (bs []))]) (cs' := [(Value.int .i64 0), (Value.int .i64 0), (Value.string (bs []))]) size50 (ev_base hN762 rfl s762_2) (ev_hit hN762 rfl) rfl rfl rfl hB715 (Nat.le_of_ble_eq_true rfl) rfl ?_
                  intro w798 hB715 E799
                  have z_w798 := E799.size
                  have hv := hv.keep E799 (fun k hk => .inr (by simp at hk; omega))
                  have hb := below_step1 hb E799 hb.size (by omega)
                  refine op_assign rfl ?_
                  refine op_assign rfl ?_
                  refine reg_nil ?_
                  refine hK795 _ _ ?_
                  refine wp_ret (blk_ret (then_ret (then_ret (blk_ret (then_ret ( ?_))))))
                  refine retN (rs := [.cell 2 50, .tmp 3, .tmp 4]) (vs := [(Value.agg #[(Value.int .i64 0), (Value.int .i64 0), (Value.string (bs []))]), (Value.int .i64 0), (Value.int .i64 3)]) rfl hd762 ⟨⟨_, (ev_base hN762 rfl s762_2), run_loadA (cs := [(Value.int .i64 0), (Value.int .i64 0), (Value.string (bs []))]) agg50 rfl (fun j u hu => by rw [Nat.zero_add]; exact hB715.cell hu)⟩, ⟨(ev_hit hN762 rfl), ⟨(ev_hit hN762 rfl), trivial⟩⟩⟩ rfl ⟨_, rfl, ?_⟩
                  -- path 10F 15F 39F 44T 51F 63F 69F 73T
                  have hq0 : takeV bl = textR (bl.drop 1) := by rw [take_cons (by omega), if_neg (by omega), if_pos (by omega)]
                  have hq : textR (bl.drop 1) = (V0, 0, 3) := by
                    by_cases hz : i = 30
                    · exact textR_of (q := .inl 3) (by rw [he, scan_step (by simp; omega), drop1_get, if_neg (by omega), if_pos (.inl hz)])
                    · exfalso; exact hz (by omega)
                  rw [hq0, hq]
                  exact ⟨hb, rfl⟩
                · -- 73 False
                  refine op_pick_f (ev_hit hN762 rfl) (ev_hit hN762 rfl) ?_
                  refine reg_nil ?_
                  refine hK778 _ _ ?_
                  refine wp_cond_false (ev_hit hN762 rfl) ?_
                  refine wp_skip ?_
                  refine hK765 _ _ ?_
                  refine one_reg ?_
                  refine op_move (ev_base hN762 rfl s762_7) ?_
                  refine op_add (ev_hit hN762 rfl) rfl (add64 (by omega)) ?_
                  refine op_assign (ev_hit hN762 rfl) ?_
                  refine reg_nil ?_
                  -- round 10F 15F 39F 44T 51F 63F 69F 73F
                  exact loop_next _ hN762 hd762 ⟨i + 1, rfl, (sl_base hN762 rfl s762_0), (sl_base hN762 rfl s762_2), (sl_base hN762 rfl s762_8), (sl_base hN762 rfl s762_9), (sl_base hN762 rfl s762_10), (sl_base hN762 rfl s762_12), (sl_base hN762 rfl s762_13), (sl_base hN762 rfl s762_14), (sl_base hN762 rfl s762_15), (sl_base hN762 rfl s762_36), (sl_base hN762 rfl s762_37), (sl_base hN762 rfl s762_38), (sl_base hN762 rfl s762_39), (sl_hit hN762 rfl).trans (congrArg (Value.int .i64) (by omega)), (by omega), (by omega), (by rw [he, scan_step (by simp; omega), drop1_get, if_neg (by omega), if_neg (fun h => h.elim (fun h => by omega) (fun h => by rw [okB_t (by omega)] at h; cases h))]), rfl⟩ (by omega)
        · -- 44 False
          refine reg_nil ?_
          refine hK764 _ _ ?_
          refine wp_cond_false (ev_hit hN762 rfl) ?_
          refine wp_exit (then_exit (then_exit (blk_hit ?_)))
          refine hK760 _ _ ?_
          refine seq_any fun K800 hK800 => ?_
          refine one_reg ?_
          refine op_build (pv := []) (v := (Value.agg #[(Value.int .i64 0), (Value.int .i64 0), (Value.string (bs []))])) trivial (by kernel_rfl) ?_
          have hB715_old := hB715
          refine op_store (vs := [(Value.int .i64 0), (Value.int .i64 0), (Value.string (bs []))]) (cs' := [(Value.int .i64 0), (Value.int .i64 0), (Value.string (bs []))]) size50 (ev_base hN762 rfl s762_2) (ev_hit hN762 rfl) rfl rfl rfl hB715 (Nat.le_of_ble_eq_true rfl) rfl ?_
          intro w803 hB715 E804
          have z_w803 := E804.size
          have hv := hv.keep E804 (fun k hk => .inr (by simp at hk; omega))
          have hb := below_step1 hb E804 hb.size (by omega)
          refine op_assign rfl ?_
          refine op_assign rfl ?_
          refine reg_nil ?_
          refine hK800 _ _ ?_
          refine wp_ret ?_
          refine retN (rs := [.cell 2 50, .tmp 3, .tmp 4]) (vs := [(Value.agg #[(Value.int .i64 0), (Value.int .i64 0), (Value.string (bs []))]), (Value.int .i64 0), (Value.int .i64 2)]) rfl hd762 ⟨⟨_, (ev_base hN762 rfl s762_2), run_loadA (cs := [(Value.int .i64 0), (Value.int .i64 0), (Value.string (bs []))]) agg50 rfl (fun j u hu => by rw [Nat.zero_add]; exact hB715.cell hu)⟩, ⟨(ev_hit hN762 rfl), ⟨(ev_hit hN762 rfl), trivial⟩⟩⟩ rfl ⟨_, rfl, ?_⟩
          -- path 10F 15F 39F 44F
          have hq0 : takeV bl = textR (bl.drop 1) := by rw [take_cons (by omega), if_neg (by omega), if_pos (by omega)]
          have hq : textR (bl.drop 1) = (V0, 0, 2) := textR_of (q := .inl 2) (by rw [he, scan_end (by simp; omega)])
          rw [hq0, hq]
          exact ⟨hb, rfl⟩

end Go.Proofs.Ytkkongnmcfdioaa
