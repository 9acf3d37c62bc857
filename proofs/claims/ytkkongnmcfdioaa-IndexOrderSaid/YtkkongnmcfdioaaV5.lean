/- Walks, written by a program: what each function of the translation hands back. -/
import Derived.Test.YtkkongnmcfdioaaV4
namespace Go.Proofs.Ytkkongnmcfdioaa
open Go.Gx Go.RowKit
attribute [local irreducible] wpList Code.wp Calls

theorem Key_ret (bl : List UInt8) (x : Vl) (v : Value) (w : World) (hl : bl.length ≤ 1000000000) (hs : x.s.length ≤ 1000000000) (hn : -9223372036854775808 ≤ x.n ∧ x.n ≤ 9223372036854775807) (hv : RdC w 0 w.heap.size 1 v bl.length (bl.map u8v)) : Ret Try.prog 34 #[v, (Value.agg #[(Value.int .i64 x.k), (Value.int .i64 x.n), (Value.string (bs x.s))])] w (fun v' w' => Below w.heap.size w w' ∧ Own w' w.heap.size 5 1 v' (bl.length + (keyV x).length) ((bl ++ keyV x).map u8v)) := by
  have hb := Below.refl w.heap.size w
  refine enter (N := 43) Try.func34 rfl rfl (by simp) fun a0 hN hd hA => ?_
  have s0 : a0.tmps.getD 0 undef = v := hA 0 (by simp)
  have s1 : a0.tmps.getD 1 undef = (Value.agg #[(Value.int .i64 x.k), (Value.int .i64 x.n), (Value.string (bs x.s))]) := hA 1 (by simp)
  clear hA
  refine seq_any fun K413 hK413 => ?_
  refine one_reg ?_
  refine op_box (cs := [(Value.int .i64 x.k), (Value.int .i64 x.n), (Value.string (bs x.s))]) (ev_base hN rfl s1) rfl ?_
  intro w414 b415 lo_b415 hi_b415 hB417 E416
  have z_w414 := E416.size
  have hv := hv.keep0 E416
  have hb := below_step0 hb E416 hb.size
  refine op_assign rfl ?_
  refine reg_nil ?_
  refine hK413 _ _ ?_
  refine seq_any fun K418 hK418 => ?_
  refine one_reg ?_
  refine op_bslice (e := 5) (pv := []) (cs := []) trivial (by kernel_rfl) ?_
  intro w419 b420 lo_b420 hi_b420 hB422 E421
  have z_w419 := E421.size
  have hv := hv.keep0 E421
  have hB417 := hB417.keep0 E421
  have hb := below_step0 hb E421 hb.size
  refine op_move (ev_base hN rfl s0) ?_
  have hP428 := (Own.ofBx (base := w.heap.size) (sz := 1) (n := 0) hB422 rfl (by decide) (by omega))
  refine op_append slt22 (ev_hit hN rfl) hP428 (ev_hit hN rfl) (Src.ofRd Try.underlying22 (by decide) hv (by simp [Value.oneCell', u8v])) (by unfold maxLen; omega) (by omega) hb.size ?_
  intro v423 w424 hO426 E425 hm427
  have z_w424 := E425.size
  have hv := hv.keepO hP428 E425 (by omega)
  have hB417 := hB417.keepO hP428 E425 (by decide)
  have hb := below_stepO hb hP428 E425 hb.size (by omega)
  have hO426 : Own w424 w.heap.size 5 1 v423 (0 + bl.length) ((bl).map u8v) := by simpa [u8v] using hO426
  refine op_assign (ev_hit hN rfl) ?_
  refine reg_nil ?_
  refine hK418 _ _ ?_
  refine seq_any fun K429 hK429 => ?_
  refine seq_any fun K430 hK430 => ?_
  refine one_reg ?_
  refine op_field fld50_0 (ev_hit hN rfl) ?_
  refine op_load1 (v := (Value.int .i64 x.k)) one3 (ev_hit hN rfl) (hB417.cell rfl) ?_
  refine op_eql (ev_hit hN rfl) rfl (fun c13 => ?_) (fun c13 => ?_)
  · -- 13 True
    refine reg_nil ?_
    refine hK430 _ _ ?_
    refine wp_cond_true (ev_hit hN rfl) ?_
    refine seq_any fun K431 hK431 => ?_
    refine one_reg ?_
    refine op_move (ev_hit hN rfl) ?_
    refine op_bslice (e := 5) (pv := [(0, (Value.int .u8 1))]) (cs := [(Value.int .u8 1)]) ⟨rfl, rfl, trivial⟩ (by kernel_rfl) ?_
    intro w432 b433 lo_b433 hi_b433 hB435 E434
    have z_w432 := E434.size
    have hv := hv.keep0 E434
    have hB417 := hB417.keep0 E434
    have hO426 := hO426.keep0 E434
    have hb := below_step0 hb E434 hb.size
    have hP441 := hO426
    refine op_append slt22 (ev_hit hN rfl) hP441 (ev_hit hN rfl) (Src.ofRd Try.underlying22 (by decide) (RdC.ofBx (sz := 1) (n := 1) hB435 rfl (by decide)) (by simp [Value.oneCell', u8v])) (by unfold maxLen; omega) (by omega) hb.size ?_
    intro v436 w437 hO439 E438 hm440
    have z_w437 := E438.size
    have hv := hv.keepO hP441 E438 (by omega)
    have hB417 := hB417.keepO hP441 E438 (by decide)
    have hb := below_stepO hb hP441 E438 hb.size (by omega)
    have hO439 : Own w437 w.heap.size 5 1 v436 ((0 + bl.length) + 1) (((bl ++ [1])).map u8v) := by simpa [u8v] using hO439
    refine op_assign (ev_hit hN rfl) ?_
    refine reg_nil ?_
    refine hK431 _ _ ?_
    refine seq_any fun K442 hK442 => ?_
    refine one_reg ?_
    refine op_field fld50_1 (ev_hit hN rfl) ?_
    refine op_load1 (v := (Value.int .i64 x.n)) one2 (ev_hit hN rfl) (hB417.cell rfl) ?_
    refine op_conv (r := ((if x.n < 0 then (x.n + 18446744073709551616).toNat else x.n.toNat : Nat) : Int)) (ev_hit hN rfl) us2 Try.underlying76 (u64_of_i64 hn) ?_
    refine op_xor (r := (upN x.n : Int)) (ev_hit hN rfl) rfl (xor_up hn) ?_
    refine op_assign (ev_hit hN rfl) ?_
    refine reg_nil ?_
    refine hK442 _ _ ?_
    refine seq_any fun K443 hK443 => ?_
    refine seq_any fun K444 hK444 => ?_
    refine one_reg ?_
    refine op_assign rfl ?_
    refine reg_nil ?_
    refine hK444 _ _ ?_
    refine wp_block ?_
    refine loop_m (fun m a w' => ∃ (i : Nat) (u : Value), m = 8 - i ∧ (a.tmps.getD 0 undef = v) ∧ (a.tmps.getD 1 undef = (Value.agg #[(Value.int .i64 x.k), (Value.int .i64 x.n), (Value.string (bs x.s))])) ∧ (a.tmps.getD 3 undef = (ptr b415 0)) ∧ (a.tmps.getD 4 undef = (Value.slice none 0 0)) ∧ (a.tmps.getD 6 undef = (Value.int .u64 (upN x.n : Int))) ∧ (a.tmps.getD 8 undef = (Value.slice (some ⟨b420, 0, none⟩) 0 0)) ∧ (a.tmps.getD 9 undef = v) ∧ (a.tmps.getD 10 undef = v423) ∧ (a.tmps.getD 11 undef = (ptr b415 0)) ∧ (a.tmps.getD 12 undef = (Value.int .i64 x.k)) ∧ (a.tmps.getD 13 undef = (Value.bool true)) ∧ (a.tmps.getD 14 undef = v423) ∧ (a.tmps.getD 15 undef = (Value.slice (some ⟨b433, 0, none⟩) 1 1)) ∧ (a.tmps.getD 16 undef = v436) ∧ (a.tmps.getD 17 undef = (ptr b415 1)) ∧ (a.tmps.getD 18 undef = (Value.int .i64 x.n)) ∧ (a.tmps.getD 19 undef = (Value.int .u64 ((if x.n < 0 then (x.n + 18446744073709551616).toNat else x.n.toNat : Nat) : Int))) ∧ (a.tmps.getD 20 undef = (Value.int .u64 (upN x.n : Int))) ∧ (a.tmps.getD 7 undef = (Value.int .i64 (56 - 8 * (i : Int)))) ∧ (a.tmps.getD 5 undef = u) ∧ (i ≤ 8) ∧ (Below w.heap.size w w') ∧ (RdC w' 0 w.heap.size 1 v bl.length (bl.map u8v)) ∧ (Bx w' b415 50 [(Value.int .i64 x.k), (Value.int .i64 x.n), (Value.string (bs x.s))]) ∧ (Own w' w.heap.size 5 1 u (bl.length + 1 + i) (((bl ++ 1 :: (be8 (upN x.n)).take i)).map u8v))) _ hN hd ⟨0, _, rfl, (sl_base hN rfl s0), (sl_base hN rfl s1), (sl_hit hN rfl), (sl_hit hN rfl), (sl_hit hN rfl), (sl_hit hN rfl), (sl_hit hN rfl), (sl_hit hN rfl), (sl_hit hN rfl), (sl_hit hN rfl), (sl_hit hN rfl), (sl_hit hN rfl), (sl_hit hN rfl), (sl_hit hN rfl), (sl_hit hN rfl), (sl_hit hN rfl), (sl_hit hN rfl), (sl_hit hN rfl), (sl_hit hN rfl).trans (congrArg (Value.int .i64) (by omega)), (sl_hit hN rfl), Nat.zero_le _, hb, hv, hB417, (by simpa [Nat.add_comm] using hO439)⟩ ?_
    rintro _ a445 w445 hN445 hd445 ⟨i, u, rfl, s445_0, s445_1, s445_3, s445_4, s445_6, s445_8, s445_9, s445_10, s445_11, s445_12, s445_13, s445_14, s445_15, s445_16, s445_17, s445_18, s445_19, s445_20, s445_7, s445_5, hi, hb, hv, hB417, hO446⟩
    have z_w445 := hb.size
    refine seq_any fun K447 hK447 => ?_
    refine seq_any fun K448 hK448 => ?_
    refine one_reg ?_
    refine op_move (ev_base hN445 rfl s445_7) ?_
    refine op_geq (ev_hit hN445 rfl) rfl (fun c22 => ?_) (fun c22 => ?_)
    · -- 22 True
      refine reg_nil ?_
      refine hK448 _ _ ?_
      refine wp_cond_true (ev_hit hN445 rfl) ?_
      refine wp_skip ?_
      refine hK447 _ _ ?_
      refine seq_any fun K449 hK449 => ?_
      refine wp_block ?_
      refine one_reg ?_
      refine op_move (ev_base hN445 rfl s445_5) ?_
      refine op_move (ev_base hN445 rfl s445_6) ?_
      refine op_move (ev_base hN445 rfl s445_7) ?_
      refine op_conv (r := (56 - 8 * (i : Int))) (ev_hit hN445 rfl) us3 Try.underlying95 (wrap_u64 (by omega)) ?_
      refine op_shr (r := (((upN x.n / 2 ^ (56 - 8 * i)) : Nat) : Int)) (ev_hit hN445 rfl) (ev_hit hN445 rfl) (by omega) (shr_nat (j := 56 - 8 * i) (by omega) (by show 56 - 8 * i ≤ 64; omega)) ?_
      refine op_conv (r := ((UInt8.ofNat (upN x.n / 2 ^ (56 - 8 * i))).toNat : Int)) (ev_hit hN445 rfl) us76 Try.underlying5 conv_u8 ?_
      refine op_bslice (e := 5) (pv := [(0, (Value.int .u8 ((UInt8.ofNat (upN x.n / 2 ^ (56 - 8 * i))).toNat : Int)))]) (cs := [(Value.int .u8 ((UInt8.ofNat (upN x.n / 2 ^ (56 - 8 * i))).toNat : Int))]) ⟨rfl, (ev_hit hN445 rfl), trivial⟩ (by kernel_rfl) ?_
      intro w450 b451 lo_b451 hi_b451 hB453 E452
      have z_w450 := E452.size
      have hv := hv.keep0 E452
      have hB417 := hB417.keep0 E452
      have hO446 := hO446.keep0 E452
      have hb := below_step0 hb E452 hb.size
      have hP459 := hO446
      refine op_append slt22 (ev_hit hN445 rfl) hP459 (ev_hit hN445 rfl) (Src.ofRd Try.underlying22 (by decide) (RdC.ofBx (sz := 1) (n := 1) hB453 rfl (by decide)) (by simp [Value.oneCell', u8v])) (by unfold maxLen; omega) (by omega) hb.size ?_
      intro v454 w455 hO457 E456 hm458
      have z_w455 := E456.size
      have hv := hv.keepO hP459 E456 (by omega)
      have hB417 := hB417.keepO hP459 E456 (by decide)
      have hb := below_stepO hb hP459 E456 hb.size (by omega)
      have hO457 : Own w455 w.heap.size 5 1 v454 ((bl.length + 1 + i) + 1) ((((bl ++ 1 :: (be8 (upN x.n)).take i) ++ [(UInt8.ofNat (upN x.n / 2 ^ (56 - 8 * i)))])).map u8v) := by simpa [u8v] using hO457
      refine op_assign (ev_hit hN445 rfl) ?_
      refine reg_nil ?_
      refine hK449 _ _ ?_
      refine one_reg ?_
      refine op_move (ev_base hN445 rfl s445_7) ?_
      refine op_sub (ev_hit hN445 rfl) rfl (sub64 (by omega)) ?_
      refine op_assign (ev_hit hN445 rfl) ?_
      refine reg_nil ?_
      -- round 13T 22T
      exact loop_next _ hN445 hd445 ⟨i + 1, _, rfl, (sl_base hN445 rfl s445_0), (sl_base hN445 rfl s445_1), (sl_base hN445 rfl s445_3), (sl_base hN445 rfl s445_4), (sl_base hN445 rfl s445_6), (sl_base hN445 rfl s445_8), (sl_base hN445 rfl s445_9), (sl_base hN445 rfl s445_10), (sl_base hN445 rfl s445_11), (sl_base hN445 rfl s445_12), (sl_base hN445 rfl s445_13), (sl_base hN445 rfl s445_14), (sl_base hN445 rfl s445_15), (sl_base hN445 rfl s445_16), (sl_base hN445 rfl s445_17), (sl_base hN445 rfl s445_18), (sl_base hN445 rfl s445_19), (sl_base hN445 rfl s445_20), (sl_hit hN445 rfl).trans (congrArg (Value.int .i64) (by omega)), (sl_hit hN445 rfl), (by omega), hb, hv, hB417, (by have hq := hO457; rw [be8_take (by omega)]; simpa [Nat.add_assoc] using hq)⟩ (by omega)
    · -- 22 False
      refine reg_nil ?_
      refine hK448 _ _ ?_
      refine wp_cond_false (ev_hit hN445 rfl) ?_
      refine wp_exit (then_exit (then_exit (blk_hit ?_)))
      refine hK443 _ _ ?_
      refine seq_any fun K460 hK460 => ?_
      refine one_reg ?_
      refine op_move (ev_base hN445 rfl s445_5) ?_
      refine op_assign (ev_hit hN445 rfl) ?_
      refine reg_nil ?_
      refine hK460 _ _ ?_
      refine wp_ret (then_ret ( ?_))
      refine ret1 rfl hd445 (ev_hit hN445 rfl) ⟨_, rfl, ?_⟩
      -- path 13T 22F
      have hi8 : i = 8 := by omega
      subst hi8
      exact ⟨hb, by simpa [keyV, c13, be8_len, List.take_of_length_le, Nat.add_assoc] using hO446⟩
  · -- 13 False
    refine reg_nil ?_
    refine hK430 _ _ ?_
    refine wp_cond_false (ev_hit hN rfl) ?_
    refine wp_skip ?_
    refine hK429 _ _ ?_
    refine seq_any fun K461 hK461 => ?_
    refine one_reg ?_
    refine op_move (ev_hit hN rfl) ?_
    refine op_bslice (e := 5) (pv := [(0, (Value.int .u8 2))]) (cs := [(Value.int .u8 2)]) ⟨rfl, rfl, trivial⟩ (by kernel_rfl) ?_
    intro w462 b463 lo_b463 hi_b463 hB465 E464
    have z_w462 := E464.size
    have hv := hv.keep0 E464
    have hB417 := hB417.keep0 E464
    have hO426 := hO426.keep0 E464
    have hb := below_step0 hb E464 hb.size
    have hP471 := hO426
    refine op_append slt22 (ev_hit hN rfl) hP471 (ev_hit hN rfl) (Src.ofRd Try.underlying22 (by decide) (RdC.ofBx (sz := 1) (n := 1) hB465 rfl (by decide)) (by simp [Value.oneCell', u8v])) (by unfold maxLen; omega) (by omega) hb.size ?_
    intro v466 w467 hO469 E468 hm470
    have z_w467 := E468.size
    have hv := hv.keepO hP471 E468 (by omega)
    have hB417 := hB417.keepO hP471 E468 (by decide)
    have hb := below_stepO hb hP471 E468 hb.size (by omega)
    have hO469 : Own w467 w.heap.size 5 1 v466 ((0 + bl.length) + 1) (((bl ++ [2])).map u8v) := by simpa [u8v] using hO469
    refine op_assign (ev_hit hN rfl) ?_
    refine reg_nil ?_
    refine hK461 _ _ ?_
    refine seq_any fun K472 hK472 => ?_
    refine one_reg ?_
    refine op_move (ev_hit hN rfl) ?_
    refine op_field fld50_2 (ev_hit hN rfl) ?_
    refine op_load1 (v := (Value.string (bs x.s))) one9 (ev_hit hN rfl) (hB417.cell rfl) ?_
    have hP478 := hO469
    refine op_append slt22 (ev_hit hN rfl) hP478 (ev_hit hN rfl) (Src.ofBs Try.underlying9 x.s) (by unfold maxLen; omega) (by omega) hb.size ?_
    intro v473 w474 hO476 E475 hm477
    have z_w474 := E475.size
    have hv := hv.keepO hP478 E475 (by omega)
    have hB417 := hB417.keepO hP478 E475 (by decide)
    have hb := below_stepO hb hP478 E475 hb.size (by omega)
    have hO476 : Own w474 w.heap.size 5 1 v473 (((0 + bl.length) + 1) + x.s.length) ((((bl ++ [2]) ++ x.s)).map u8v) := by simpa [u8v] using hO476
    refine op_bslice (e := 5) (pv := [(0, (Value.int .u8 0))]) (cs := [(Value.int .u8 0)]) ⟨rfl, rfl, trivial⟩ (by kernel_rfl) ?_
    intro w479 b480 lo_b480 hi_b480 hB482 E481
    have z_w479 := E481.size
    have hv := hv.keep0 E481
    have hB417 := hB417.keep0 E481
    have hO476 := hO476.keep0 E481
    have hb := below_step0 hb E481 hb.size
    have hP488 := hO476
    refine op_append slt22 (ev_hit hN rfl) hP488 (ev_hit hN rfl) (Src.ofRd Try.underlying22 (by decide) (RdC.ofBx (sz := 1) (n := 1) hB482 rfl (by decide)) (by simp [Value.oneCell', u8v])) (by unfold maxLen; omega) (by omega) hb.size ?_
    intro v483 w484 hO486 E485 hm487
    have z_w484 := E485.size
    have hv := hv.keepO hP488 E485 (by omega)
    have hB417 := hB417.keepO hP488 E485 (by decide)
    have hb := below_stepO hb hP488 E485 hb.size (by omega)
    have hO486 : Own w484 w.heap.size 5 1 v483 ((((0 + bl.length) + 1) + x.s.length) + 1) (((((bl ++ [2]) ++ x.s) ++ [0])).map u8v) := by simpa [u8v] using hO486
    refine op_assign (ev_hit hN rfl) ?_
    refine reg_nil ?_
    refine hK472 _ _ ?_
    refine wp_ret ?_
    refine ret1 rfl hd (ev_hit hN rfl) ⟨_, rfl, ?_⟩
    -- path 13F
    exact ⟨hb, by simpa [keyV, c13, Nat.add_assoc, Nat.add_comm, Nat.add_left_comm] using hO486⟩

theorem RKey_ret (bl : List UInt8) (x : Vl) (v : Value) (w : World) (hl : bl.length ≤ 1000000000) (hs : x.s.length ≤ 1000000000) (hn : -9223372036854775808 ≤ x.n ∧ x.n ≤ 9223372036854775807) (hv : RdC w 0 w.heap.size 1 v bl.length (bl.map u8v)) : Ret Try.prog 37 #[v, (Value.agg #[(Value.int .i64 x.k), (Value.int .i64 x.n), (Value.string (bs x.s))])] w (fun v' w' => Below w.heap.size w w' ∧ Own w' w.heap.size 5 1 v' (bl.length + (keyR x).length) ((bl ++ keyR x).map u8v)) := by
  have hb := Below.refl w.heap.size w
  refine enter (N := 47) Try.func37 rfl rfl (by simp) fun a0 hN hd hA => ?_
  have s0 : a0.tmps.getD 0 undef = v := hA 0 (by simp)
  have s1 : a0.tmps.getD 1 undef = (Value.agg #[(Value.int .i64 x.k), (Value.int .i64 x.n), (Value.string (bs x.s))]) := hA 1 (by simp)
  clear hA
  refine seq_any fun K489 hK489 => ?_
  refine one_reg ?_
  refine op_box (cs := [(Value.int .i64 x.k), (Value.int .i64 x.n), (Value.string (bs x.s))]) (ev_base hN rfl s1) rfl ?_
  intro w490 b491 lo_b491 hi_b491 hB493 E492
  have z_w490 := E492.size
  have hv := hv.keep0 E492
  have hb := below_step0 hb E492 hb.size
  refine op_assign rfl ?_
  refine reg_nil ?_
  refine hK489 _ _ ?_
  refine seq_any fun K494 hK494 => ?_
  refine one_reg ?_
  refine op_bslice (e := 5) (pv := []) (cs := []) trivial (by kernel_rfl) ?_
  intro w495 b496 lo_b496 hi_b496 hB498 E497
  have z_w495 := E497.size
  have hv := hv.keep0 E497
  have hB493 := hB493.keep0 E497
  have hb := below_step0 hb E497 hb.size
  refine op_move (ev_base hN rfl s0) ?_
  have hP504 := (Own.ofBx (base := w.heap.size) (sz := 1) (n := 0) hB498 rfl (by decide) (by omega))
  refine op_append slt22 (ev_hit hN rfl) hP504 (ev_hit hN rfl) (Src.ofRd Try.underlying22 (by decide) hv (by simp [Value.oneCell', u8v])) (by unfold maxLen; omega) (by omega) hb.size ?_
  intro v499 w500 hO502 E501 hm503
  have z_w500 := E501.size
  have hv := hv.keepO hP504 E501 (by omega)
  have hB493 := hB493.keepO hP504 E501 (by decide)
  have hb := below_stepO hb hP504 E501 hb.size (by omega)
  have hO502 : Own w500 w.heap.size 5 1 v499 (0 + bl.length) ((bl).map u8v) := by simpa [u8v] using hO502
  refine op_assign (ev_hit hN rfl) ?_
  refine reg_nil ?_
  refine hK494 _ _ ?_
  refine seq_any fun K505 hK505 => ?_
  refine seq_any fun K506 hK506 => ?_
  refine one_reg ?_
  refine op_field fld50_0 (ev_hit hN rfl) ?_
  refine op_load1 (v := (Value.int .i64 x.k)) one3 (ev_hit hN rfl) (hB493.cell rfl) ?_
  refine op_eql (ev_hit hN rfl) rfl (fun c13 => ?_) (fun c13 => ?_)
  · -- 13 True
    refine reg_nil ?_
    refine hK506 _ _ ?_
    refine wp_cond_true (ev_hit hN rfl) ?_
    refine seq_any fun K507 hK507 => ?_
    refine one_reg ?_
    refine op_field fld50_1 (ev_hit hN rfl) ?_
    refine op_load1 (v := (Value.int .i64 x.n)) one2 (ev_hit hN rfl) (hB493.cell rfl) ?_
    refine op_conv (r := (upU x.n : Int)) (ev_hit hN rfl) us2 Try.underlying76 (u64_of_i64 hn) ?_
    refine op_assign (ev_hit hN rfl) ?_
    refine reg_nil ?_
    refine hK507 _ _ ?_
    refine seq_any fun K508 hK508 => ?_
    refine one_reg ?_
    refine op_move (ev_hit hN rfl) ?_
    refine op_bslice (e := 5) (pv := [(0, (Value.int .u8 1))]) (cs := [(Value.int .u8 1)]) ⟨rfl, rfl, trivial⟩ (by kernel_rfl) ?_
    intro w509 b510 lo_b510 hi_b510 hB512 E511
    have z_w509 := E511.size
    have hv := hv.keep0 E511
    have hB493 := hB493.keep0 E511
    have hO502 := hO502.keep0 E511
    have hb := below_step0 hb E511 hb.size
    have hP518 := hO502
    refine op_append slt22 (ev_hit hN rfl) hP518 (ev_hit hN rfl) (Src.ofRd Try.underlying22 (by decide) (RdC.ofBx (sz := 1) (n := 1) hB512 rfl (by decide)) (by simp [Value.oneCell', u8v])) (by unfold maxLen; omega) (by omega) hb.size ?_
    intro v513 w514 hO516 E515 hm517
    have z_w514 := E515.size
    have hv := hv.keepO hP518 E515 (by omega)
    have hB493 := hB493.keepO hP518 E515 (by decide)
    have hb := below_stepO hb hP518 E515 hb.size (by omega)
    have hO516 : Own w514 w.heap.size 5 1 v513 ((0 + bl.length) + 1) (((bl ++ [1])).map u8v) := by simpa [u8v] using hO516
    refine op_assign (ev_hit hN rfl) ?_
    refine reg_nil ?_
    refine hK508 _ _ ?_
    refine seq_any fun K519 hK519 => ?_
    refine seq_any fun K520 hK520 => ?_
    refine one_reg ?_
    refine op_assign rfl ?_
    refine reg_nil ?_
    refine hK520 _ _ ?_
    refine wp_block ?_
    refine loop_m (fun m a w' => ∃ (i : Nat) (u : Value), m = 8 - i ∧ (a.tmps.getD 1 undef = (Value.agg #[(Value.int .i64 x.k), (Value.int .i64 x.n), (Value.string (bs x.s))])) ∧ (a.tmps.getD 3 undef = (ptr b491 0)) ∧ (a.tmps.getD 4 undef = (Value.slice none 0 0)) ∧ (a.tmps.getD 5 undef = (Value.int .u64 (upU x.n : Int))) ∧ (a.tmps.getD 8 undef = (Value.slice (some ⟨b496, 0, none⟩) 0 0)) ∧ (a.tmps.getD 9 undef = v) ∧ (a.tmps.getD 10 undef = v499) ∧ (a.tmps.getD 11 undef = (ptr b491 0)) ∧ (a.tmps.getD 12 undef = (Value.int .i64 x.k)) ∧ (a.tmps.getD 13 undef = (Value.bool true)) ∧ (a.tmps.getD 14 undef = (ptr b491 1)) ∧ (a.tmps.getD 15 undef = (Value.int .i64 x.n)) ∧ (a.tmps.getD 16 undef = (Value.int .u64 (upU x.n : Int))) ∧ (a.tmps.getD 17 undef = v499) ∧ (a.tmps.getD 18 undef = (Value.slice (some ⟨b510, 0, none⟩) 1 1)) ∧ (a.tmps.getD 19 undef = v513) ∧ (a.tmps.getD 6 undef = (Value.int .i64 (7 - (i : Int)))) ∧ (a.tmps.getD 0 undef = u) ∧ (i ≤ 8) ∧ (Below w.heap.size w w') ∧ (RdC w' 0 w.heap.size 1 v bl.length (bl.map u8v)) ∧ (Bx w' b491 50 [(Value.int .i64 x.k), (Value.int .i64 x.n), (Value.string (bs x.s))]) ∧ (Own w' w.heap.size 5 1 u (bl.length + 1 + i) (((bl ++ 1 :: (keyU (upU x.n)).take i)).map u8v))) _ hN hd ⟨0, _, rfl, (sl_base hN rfl s1), (sl_hit hN rfl), (sl_hit hN rfl), (sl_hit hN rfl), (sl_hit hN rfl), (sl_hit hN rfl), (sl_hit hN rfl), (sl_hit hN rfl), (sl_hit hN rfl), (sl_hit hN rfl), (sl_hit hN rfl), (sl_hit hN rfl), (sl_hit hN rfl), (sl_hit hN rfl), (sl_hit hN rfl), (sl_hit hN rfl), (sl_hit hN rfl).trans (congrArg (Value.int .i64) (by omega)), (sl_hit hN rfl), Nat.zero_le _, hb, hv, hB493, (by simpa [Nat.add_comm] using hO516)⟩ ?_
    rintro _ a521 w521 hN521 hd521 ⟨i, u, rfl, s521_1, s521_3, s521_4, s521_5, s521_8, s521_9, s521_10, s521_11, s521_12, s521_13, s521_14, s521_15, s521_16, s521_17, s521_18, s521_19, s521_6, s521_0, hi, hb, hv, hB493, hO522⟩
    have z_w521 := hb.size
    refine seq_any fun K523 hK523 => ?_
    refine seq_any fun K524 hK524 => ?_
    refine one_reg ?_
    refine op_move (ev_base hN521 rfl s521_6) ?_
    refine op_geq (ev_hit hN521 rfl) rfl (fun c21 => ?_) (fun c21 => ?_)
    · -- 21 True
      refine reg_nil ?_
      refine hK524 _ _ ?_
      refine wp_cond_true (ev_hit hN521 rfl) ?_
      refine wp_skip ?_
      refine hK523 _ _ ?_
      refine seq_any fun K525 hK525 => ?_
      refine wp_block ?_
      refine seq_any fun K526 hK526 => ?_
      refine one_reg ?_
      refine op_move (ev_base hN521 rfl s521_5) ?_
      refine op_move (ev_base hN521 rfl s521_6) ?_
      refine op_mul rfl (ev_hit hN521 rfl) (mul64 (by omega)) ?_
      refine op_shr (r := (((upU x.n / 2 ^ (56 - 8 * i)) : Nat) : Int)) (ev_hit hN521 rfl) (ev_hit hN521 rfl) (by omega) (shr_nat (j := 56 - 8 * i) (by omega) (by show 56 - 8 * i ≤ 64; omega)) ?_
      refine op_rem (r := (((upU x.n / 2 ^ (56 - 8 * i)) % 256 : Nat) : Int)) (ev_hit hN521 rfl) rfl (by decide) rem_256 ?_
      refine op_conv (r := ((UInt8.ofNat ((upU x.n / 2 ^ (56 - 8 * i)) % 256)).toNat : Int)) (ev_hit hN521 rfl) us76 Try.underlying5 conv_u8 ?_
      refine op_assign (ev_hit hN521 rfl) ?_
      refine reg_nil ?_
      refine hK526 _ _ ?_
      refine seq_any fun K527 hK527 => ?_
      refine seq_any fun K528 hK528 => ?_
      refine one_reg ?_
      refine op_move (ev_base hN521 rfl s521_6) ?_
      refine op_eql (ev_hit hN521 rfl) rfl (fun c31 => ?_) (fun c31 => ?_)
      · -- 31 True
        refine reg_nil ?_
        refine hK528 _ _ ?_
        refine wp_cond_true (ev_hit hN521 rfl) ?_
        refine one_reg ?_
        refine op_move (ev_hit hN521 rfl) ?_
        refine op_xor (r := (((UInt8.ofNat ((upU x.n / 2 ^ (56 - 8 * i)) % 256)) ^^^ 128).toNat : Int)) (ev_hit hN521 rfl) rfl (xor128 _) ?_
        refine op_assign (ev_hit hN521 rfl) ?_
        refine reg_nil ?_
        refine hK527 _ _ ?_
        refine one_reg ?_
        refine op_move (ev_base hN521 rfl s521_0) ?_
        refine op_move (ev_hit hN521 rfl) ?_
        refine op_bslice (e := 5) (pv := [(0, (Value.int .u8 (((UInt8.ofNat ((upU x.n / 2 ^ (56 - 8 * i)) % 256)) ^^^ 128).toNat : Int)))]) (cs := [(Value.int .u8 (((UInt8.ofNat ((upU x.n / 2 ^ (56 - 8 * i)) % 256)) ^^^ 128).toNat : Int))]) ⟨rfl, (ev_hit hN521 rfl), trivial⟩ (by kernel_rfl) ?_
        intro w529 b530 lo_b530 hi_b530 hB532 E531
        have z_w529 := E531.size
        have hv := hv.keep0 E531
        have hB493 := hB493.keep0 E531
        have hO522 := hO522.keep0 E531
        have hb := below_step0 hb E531 hb.size
        have hP538 := hO522
        refine op_append slt22 (ev_hit hN521 rfl) hP538 (ev_hit hN521 rfl) (Src.ofRd Try.underlying22 (by decide) (RdC.ofBx (sz := 1) (n := 1) hB532 rfl (by decide)) (by simp [Value.oneCell', u8v])) (by unfold maxLen; omega) (by omega) hb.size ?_
        intro v533 w534 hO536 E535 hm537
        have z_w534 := E535.size
        have hv := hv.keepO hP538 E535 (by omega)
        have hB493 := hB493.keepO hP538 E535 (by decide)
        have hb := below_stepO hb hP538 E535 hb.size (by omega)
        have hO536 : Own w534 w.heap.size 5 1 v533 ((bl.length + 1 + i) + 1) ((((bl ++ 1 :: (keyU (upU x.n)).take i) ++ [((UInt8.ofNat ((upU x.n / 2 ^ (56 - 8 * i)) % 256)) ^^^ 128)])).map u8v) := by simpa [u8v] using hO536
        refine op_assign (ev_hit hN521 rfl) ?_
        refine reg_nil ?_
        refine hK525 _ _ ?_
        refine one_reg ?_
        refine op_move (ev_base hN521 rfl s521_6) ?_
        refine op_sub (ev_hit hN521 rfl) rfl (sub64 (by omega)) ?_
        refine op_assign (ev_hit hN521 rfl) ?_
        refine reg_nil ?_
        -- round 13T 21T 31T
        exact loop_next _ hN521 hd521 ⟨i + 1, _, rfl, (sl_base hN521 rfl s521_1), (sl_base hN521 rfl s521_3), (sl_base hN521 rfl s521_4), (sl_base hN521 rfl s521_5), (sl_base hN521 rfl s521_8), (sl_base hN521 rfl s521_9), (sl_base hN521 rfl s521_10), (sl_base hN521 rfl s521_11), (sl_base hN521 rfl s521_12), (sl_base hN521 rfl s521_13), (sl_base hN521 rfl s521_14), (sl_base hN521 rfl s521_15), (sl_base hN521 rfl s521_16), (sl_base hN521 rfl s521_17), (sl_base hN521 rfl s521_18), (sl_base hN521 rfl s521_19), (sl_hit hN521 rfl).trans (congrArg (Value.int .i64) (by omega)), (sl_hit hN521 rfl), (by omega), hb, hv, hB493, (by have hq := hO536; rw [keyU_take (by omega)]; simpa [Nat.add_assoc, show i = 0 from by omega] using hq)⟩ (by omega)
      · -- 31 False
        refine reg_nil ?_
        refine hK528 _ _ ?_
        refine wp_cond_false (ev_hit hN521 rfl) ?_
        refine wp_skip ?_
        refine hK527 _ _ ?_
        refine one_reg ?_
        refine op_move (ev_base hN521 rfl s521_0) ?_
        refine op_move (ev_hit hN521 rfl) ?_
        refine op_bslice (e := 5) (pv := [(0, (Value.int .u8 ((UInt8.ofNat ((upU x.n / 2 ^ (56 - 8 * i)) % 256)).toNat : Int)))]) (cs := [(Value.int .u8 ((UInt8.ofNat ((upU x.n / 2 ^ (56 - 8 * i)) % 256)).toNat : Int))]) ⟨rfl, (ev_hit hN521 rfl), trivial⟩ (by kernel_rfl) ?_
        intro w539 b540 lo_b540 hi_b540 hB542 E541
        have z_w539 := E541.size
        have hv := hv.keep0 E541
        have hB493 := hB493.keep0 E541
        have hO522 := hO522.keep0 E541
        have hb := below_step0 hb E541 hb.size
        have hP548 := hO522
        refine op_append slt22 (ev_hit hN521 rfl) hP548 (ev_hit hN521 rfl) (Src.ofRd Try.underlying22 (by decide) (RdC.ofBx (sz := 1) (n := 1) hB542 rfl (by decide)) (by simp [Value.oneCell', u8v])) (by unfold maxLen; omega) (by omega) hb.size ?_
        intro v543 w544 hO546 E545 hm547
        have z_w544 := E545.size
        have hv := hv.keepO hP548 E545 (by omega)
        have hB493 := hB493.keepO hP548 E545 (by decide)
        have hb := below_stepO hb hP548 E545 hb.size (by omega)
        have hO546 : Own w544 w.heap.size 5 1 v543 ((bl.length + 1 + i) + 1) ((((bl ++ 1 :: (keyU (upU x.n)).take i) ++ [(UInt8.ofNat ((upU x.n / 2 ^ (56 - 8 * i)) % 256))])).map u8v) := by simpa [u8v] using hO546
        refine op_assign (ev_hit hN521 rfl) ?_
        refine reg_nil ?_
        refine hK525 _ _ ?_
        refine one_reg ?_
        refine op_move (ev_base hN521 rfl s521_6) ?_
        refine op_sub (ev_hit hN521 rfl) rfl (sub64 (by omega)) ?_
        refine op_assign (ev_hit hN521 rfl) ?_
        refine reg_nil ?_
        -- round 13T 21T 31F
        exact loop_next _ hN521 hd521 ⟨i + 1, _, rfl, (sl_base hN521 rfl s521_1), (sl_base hN521 rfl s521_3), (sl_base hN521 rfl s521_4), (sl_base hN521 rfl s521_5), (sl_base hN521 rfl s521_8), (sl_base hN521 rfl s521_9), (sl_base hN521 rfl s521_10), (sl_base hN521 rfl s521_11), (sl_base hN521 rfl s521_12), (sl_base hN521 rfl s521_13), (sl_base hN521 rfl s521_14), (sl_base hN521 rfl s521_15), (sl_base hN521 rfl s521_16), (sl_base hN521 rfl s521_17), (sl_base hN521 rfl s521_18), (sl_base hN521 rfl s521_19), (sl_hit hN521 rfl).trans (congrArg (Value.int .i64) (by omega)), (sl_hit hN521 rfl), (by omega), hb, hv, hB493, (by have hq := hO546; rw [keyU_take (by omega)]; simpa [Nat.add_assoc, show ¬ i = 0 from by omega] using hq)⟩ (by omega)
    · -- 21 False
      refine reg_nil ?_
      refine hK524 _ _ ?_
      refine wp_cond_false (ev_hit hN521 rfl) ?_
      refine wp_exit (then_exit (then_exit (blk_hit ?_)))
      refine hK519 _ _ ?_
      refine seq_any fun K549 hK549 => ?_
      refine one_reg ?_
      refine op_move (ev_base hN521 rfl s521_0) ?_
      refine op_assign (ev_hit hN521 rfl) ?_
      refine reg_nil ?_
      refine hK549 _ _ ?_
      refine wp_ret (then_ret ( ?_))
      refine ret1 rfl hd521 (ev_hit hN521 rfl) ⟨_, rfl, ?_⟩
      -- path 13T 21F
      have hi8 : i = 8 := by omega
      subst hi8
      exact ⟨hb, by simpa [keyR, c13, keyU_len, List.take_of_length_le, Nat.add_assoc] using hO522⟩
  · -- 13 False
    refine reg_nil ?_
    refine hK506 _ _ ?_
    refine wp_cond_false (ev_hit hN rfl) ?_
    refine wp_skip ?_
    refine hK505 _ _ ?_
    refine seq_any fun K550 hK550 => ?_
    refine reg_chain (Φ := phiC [(fun _ _ u _ => u = v499), (fun _ v u w' => ∃ (b552 : Nat), u = (Value.slice (some ⟨b552, 0, none⟩) 1 1) ∧ w500.heap.size ≤ b552 ∧ Bx w' b552 5 [(Value.int .u8 2)] ∧ v.ownBlock ≠ some b552), chP 0, (fun _ _ u _ => u = (ptr b491 2)), (fun _ _ u _ => u = (Value.string (bs x.s))), chP 1, (fun _ v u w' => ∃ (b568 : Nat), u = (Value.slice (some ⟨b568, 0, none⟩) 1 1) ∧ w500.heap.size ≤ b568 ∧ Bx w' b568 5 [(Value.int .u8 0)] ∧ v.ownBlock ≠ some b568), chP 2, chP 2]) (C := CL [(fun v w' => Own w' w.heap.size 5 1 v (0 + bl.length) ((bl).map u8v)), (fun v w' => Own w' w.heap.size 5 1 v ((0 + bl.length) + 1) (((bl ++ [2])).map u8v)), (fun v w' => Own w' w.heap.size 5 1 v (((0 + bl.length) + 1) + x.s.length) ((((bl ++ [2]) ++ x.s)).map u8v)), (fun v w' => Own w' w.heap.size 5 1 v ((((0 + bl.length) + 1) + x.s.length) + 1) (((((bl ++ [2]) ++ x.s) ++ [0])).map u8v))]) ⟨[2, 5, 7], fun c => [47, 41, 44, 46].getD c 47⟩ v499 mixed (by kernel_rfl) (by kernel_rfl) (by kernel_rfl) (by kernel_rfl) hN (StK.get0 (n := 3) (StK.eq (StK.cons (fun c v u w1 w2 E h => by obtain ⟨x0, hv, l0, f0, q0⟩ := h; exact ⟨x0, hv, l0, f0.keep0 E, q0⟩) (fun c v v' u w1 w2 _ E h => by obtain ⟨x0, hv, l0, f0, q0⟩ := h; exact ⟨x0, hv, l0, f0.keep E.1 (fun hh => q0 hh.symm), ne_step E f0.lt q0⟩) (StK.ch (StK.eq (StK.eq (StK.ch (StK.cons (fun c v u w1 w2 E h => by obtain ⟨x0, hv, l0, f0, q0⟩ := h; exact ⟨x0, hv, l0, f0.keep0 E, q0⟩) (fun c v v' u w1 w2 _ E h => by obtain ⟨x0, hv, l0, f0, q0⟩ := h; exact ⟨x0, hv, l0, f0.keep E.1 (fun hh => q0 hh.symm), ne_step E f0.lt q0⟩) (StK.ch (StK.ch (StK.nil))))))))))) (StK.get1 (n := 3) (StK.eq (StK.cons (fun c v u w1 w2 E h => by obtain ⟨x0, hv, l0, f0, q0⟩ := h; exact ⟨x0, hv, l0, f0.keep0 E, q0⟩) (fun c v v' u w1 w2 _ E h => by obtain ⟨x0, hv, l0, f0, q0⟩ := h; exact ⟨x0, hv, l0, f0.keep E.1 (fun hh => q0 hh.symm), ne_step E f0.lt q0⟩) (StK.ch (StK.eq (StK.eq (StK.ch (StK.cons (fun c v u w1 w2 E h => by obtain ⟨x0, hv, l0, f0, q0⟩ := h; exact ⟨x0, hv, l0, f0.keep0 E, q0⟩) (fun c v v' u w1 w2 _ E h => by obtain ⟨x0, hv, l0, f0, q0⟩ := h; exact ⟨x0, hv, l0, f0.keep E.1 (fun hh => q0 hh.symm), ne_step E f0.lt q0⟩) (StK.ch (StK.ch (StK.nil))))))))))) (StL2.get0 (StL2.own (StL2.own (StL2.own (StL2.own (StL2.nil)))))) (StL2.get1 (StL2.own (StL2.own (StL2.own (StL2.own (StL2.nil)))))) hO502 (ObLn.get (ObLn.cons ?_ (ObLn.cons ?_ (ObLn.pass rfl (ObLn.cons ?_ (ObLn.cons ?_ (ObLn.pass rfl (ObLn.cons ?_ (ObLn.pass rfl (ObLn.cons ?_ (ObLn.nil))))))))))) (ObLc.get (ObLc.cons ?_ (ObLc.cons ?_ (ObLc.cons ?_ (ObLc.nil))))) ?_
    · -- operation 0, slot 39
      intro a551 w551 cc551 cv551 hN551 hcl551 hR551 hlt551 hvo551 hbs551 hdp551
      have hR551 : w500.grownBy w551 v499.ownBlock := hR551
      have hO502_o := hO502
      have q551_0 : a551.tmps.getD 0 undef = v499 := (hbs551 0 rfl).trans (sl_hit hN rfl)
      clear hbs551 hdp551
      refine op_move (ev_base hN551 rfl q551_0) ?_
      exact obNc_end rfl rfl ((grown_refl _ _))
    · -- operation 1, slot 40
      intro a552 w552 cc552 cv552 hN552 hcl552 hR552 hlt552 hvo552 hbs552 hdp552
      have hR552 : w500.grownBy w552 v499.ownBlock := hR552
      have hO502_o := hO502
      have z_w552 := hR552.size
      have hb := below_stepO hb hO502 hR552 hb.size (by omega)
      have hv := hv.keepO hO502 hR552 (by omega)
      have hB493 := hB493.keepO hO502 hR552 (by decide)
      clear hbs552 hdp552
      refine op_bslice (e := 5) (pv := [(0, (Value.int .u8 2))]) (cs := [(Value.int .u8 2)]) ⟨rfl, rfl, trivial⟩ (by kernel_rfl) ?_
      intro w553 b554 lo_b554 hi_b554 hB556 E555
      have z_w553 := E555.size
      have hv := hv.keep0 E555
      have hB493 := hB493.keep0 E555
      have hb := below_step0 hb E555 hb.size
      exact obNc_end rfl ⟨b554, rfl, (by omega), hB556, (fun hh => by have := hlt552 _ hh; omega)⟩ (E555)
    · -- operation 3, slot 42
      intro a557 w557 cc557 cv557 hN557 hcl557 hR557 hlt557 hvo557 hbs557 hdp557
      have hR557 : w500.grownBy w557 v499.ownBlock := hR557
      have hO502_o := hO502
      have q557_3 : a557.tmps.getD 3 undef = (ptr b491 0) := (hbs557 3 rfl).trans (sl_hit hN rfl)
      clear hbs557 hdp557
      refine op_field fld50_2 (ev_base hN557 rfl q557_3) ?_
      exact obNc_end rfl rfl ((grown_refl _ _))
    · -- operation 4, slot 43
      intro a558 w558 cc558 cv558 hN558 hcl558 hR558 hlt558 hvo558 hbs558 hdp558
      have hR558 : w500.grownBy w558 v499.ownBlock := hR558
      have hO502_o := hO502
      have z_w558 := hR558.size
      have hb := below_stepO hb hO502 hR558 hb.size (by omega)
      have hv := hv.keepO hO502 hR558 (by omega)
      have hB493 := hB493.keepO hO502 hR558 (by decide)
      have q558_42 : a558.tmps.getD 42 undef = (ptr b491 2) := hdp558 3 _ 42 (by kernel_rfl) rfl rfl
      clear hbs558 hdp558
      refine op_load1 (v := (Value.string (bs x.s))) one9 (ev_base hN558 rfl q558_42) (hB493.cell rfl) ?_
      exact obNc_end rfl rfl ((grown_refl _ _))
    · -- operation 6, slot 45
      intro a559 w559 cc559 cv559 hN559 hcl559 hR559 hlt559 hvo559 hbs559 hdp559
      have hR559 : w500.grownBy w559 v499.ownBlock := hR559
      have hO502_o := hO502
      have z_w559 := hR559.size
      have hb := below_stepO hb hO502 hR559 hb.size (by omega)
      have hv := hv.keepO hO502 hR559 (by omega)
      have hB493 := hB493.keepO hO502 hR559 (by decide)
      clear hbs559 hdp559
      refine op_bslice (e := 5) (pv := [(0, (Value.int .u8 0))]) (cs := [(Value.int .u8 0)]) ⟨rfl, rfl, trivial⟩ (by kernel_rfl) ?_
      intro w560 b561 lo_b561 hi_b561 hB563 E562
      have z_w560 := E562.size
      have hv := hv.keep0 E562
      have hB493 := hB493.keep0 E562
      have hb := below_step0 hb E562 hb.size
      exact obNc_end rfl ⟨b561, rfl, (by omega), hB563, (fun hh => by have := hlt559 _ hh; omega)⟩ (E562)
    · -- operation 8, slot 4
      intro a564 w564 cc564 cv564 hN564 hcl564 hR564 hlt564 hvo564 hbs564 hdp564
      have hR564 : w500.grownBy w564 v499.ownBlock := hR564
      have hO502_o := hO502
      have hch564 : chP 2 cc564 cv564 (a564.tmps.getD 46 undef) w564 := hdp564 7 _ 46 (by kernel_rfl) rfl rfl
      have hcc564 : cc564 = 3 := Nat.le_antisymm hcl564 hch564.1
      have q564_46 := hch564.2 hcc564
      clear hbs564 hdp564
      refine op_assign (ev_base hN564 rfl q564_46) ?_
      exact obNc_end rfl ⟨by omega, fun _ => rfl⟩ ((grown_refl _ _))
    · -- operation 2, slot 41
      intro o_ ho_; obtain rfl := Option.some.inj ho_; intro a565 w565 cv565 hN565 hR565 hcv0565 hbs565 hdp565 hC565
      have hR565 : w500.grownBy w565 v499.ownBlock := hR565
      have hO502_o := hO502
      have z_w565 := hR565.size
      have hb := below_stepO hb hO502 hR565 hb.size (by omega)
      have hv := hv.keepO hO502 hR565 (by omega)
      have hB493 := hB493.keepO hO502 hR565 (by decide)
      have hcv565 : v499 = cv565 := (hcv0565 rfl).symm
      subst hcv565
      have hC565 : Own w565 w.heap.size 5 1 v499 (0 + bl.length) ((bl).map u8v) := hC565
      have q565_39 : a565.tmps.getD 39 undef = v499 := hdp565 0 _ 39 (by kernel_rfl) rfl rfl
      obtain ⟨b552, q565_40, _, hB554, xq565_40_0⟩ := hdp565 1 _ 40 (by kernel_rfl) rfl rfl
      have hB554 : Bx w565 b552 5 [(Value.int .u8 2)] := hB554
      clear hbs565 hdp565
      have hP571 := hC565
      refine op_append slt22 (ev_base hN565 rfl q565_39) hP571 (ev_base hN565 rfl q565_40) (Src.ofRd Try.underlying22 (by decide) (RdC.ofBx (sz := 1) (n := 1) hB554 rfl (by decide)) (by simp [Value.oneCell', u8v])) (by unfold maxLen; omega) (by omega) hb.size ?_
      intro v566 w567 hO569 E568 hm570
      have z_w567 := E568.size
      have hv := hv.keepO hP571 E568 (by omega)
      have hB493 := hB493.keepO hP571 E568 (by decide)
      have hB554 := hB554.keep E568 (fun hh => xq565_40_0 hh.symm)
      have hb := below_stepO hb hP571 E568 hb.size (by omega)
      have hO569 : Own w567 w.heap.size 5 1 v566 ((0 + bl.length) + 1) (((bl ++ [2])).map u8v) := by simpa [u8v] using hO569
      exact obCc_end rfl rfl (chP_now (w := w567)) hO569 ⟨E568, hm570⟩
    · -- operation 5, slot 44
      intro o_ ho_; obtain rfl := Option.some.inj ho_; intro a572 w572 cv572 hN572 hR572 hcv0572 hbs572 hdp572 hC572
      have hR572 : w500.grownBy w572 v499.ownBlock := hR572
      have hO502_o := hO502
      have z_w572 := hR572.size
      have hb := below_stepO hb hO502 hR572 hb.size (by omega)
      have hv := hv.keepO hO502 hR572 (by omega)
      have hB493 := hB493.keepO hO502 hR572 (by decide)
      have hC572 : Own w572 w.heap.size 5 1 cv572 ((0 + bl.length) + 1) (((bl ++ [2])).map u8v) := hC572
      have q572_41 : a572.tmps.getD 41 undef = cv572 := (show chP 0 1 cv572 (a572.tmps.getD 41 undef) w572 from hdp572 2 _ 41 (by kernel_rfl) rfl rfl).2 rfl
      have q572_43 : a572.tmps.getD 43 undef = (Value.string (bs x.s)) := hdp572 4 _ 43 (by kernel_rfl) rfl rfl
      clear hbs572 hdp572
      have hP578 := hC572
      refine op_append slt22 (ev_base hN572 rfl q572_41) hP578 (ev_base hN572 rfl q572_43) (Src.ofBs Try.underlying9 x.s) (by unfold maxLen; omega) (by omega) hb.size ?_
      intro v573 w574 hO576 E575 hm577
      have z_w574 := E575.size
      have hv := hv.keepO hP578 E575 (by omega)
      have hB493 := hB493.keepO hP578 E575 (by decide)
      have hb := below_stepO hb hP578 E575 hb.size (by omega)
      have hO576 : Own w574 w.heap.size 5 1 v573 (((0 + bl.length) + 1) + x.s.length) ((((bl ++ [2]) ++ x.s)).map u8v) := by simpa [u8v] using hO576
      exact obCc_end rfl rfl (chP_now (w := w574)) hO576 ⟨E575, hm577⟩
    · -- operation 7, slot 46
      intro o_ ho_; obtain rfl := Option.some.inj ho_; intro a579 w579 cv579 hN579 hR579 hcv0579 hbs579 hdp579 hC579
      have hR579 : w500.grownBy w579 v499.ownBlock := hR579
      have hO502_o := hO502
      have z_w579 := hR579.size
      have hb := below_stepO hb hO502 hR579 hb.size (by omega)
      have hv := hv.keepO hO502 hR579 (by omega)
      have hB493 := hB493.keepO hO502 hR579 (by decide)
      have hC579 : Own w579 w.heap.size 5 1 cv579 (((0 + bl.length) + 1) + x.s.length) ((((bl ++ [2]) ++ x.s)).map u8v) := hC579
      have q579_44 : a579.tmps.getD 44 undef = cv579 := (show chP 1 2 cv579 (a579.tmps.getD 44 undef) w579 from hdp579 5 _ 44 (by kernel_rfl) rfl rfl).2 rfl
      obtain ⟨b568, q579_45, _, hB570, xq579_45_0⟩ := hdp579 6 _ 45 (by kernel_rfl) rfl rfl
      have hB570 : Bx w579 b568 5 [(Value.int .u8 0)] := hB570
      clear hbs579 hdp579
      have hP585 := hC579
      refine op_append slt22 (ev_base hN579 rfl q579_44) hP585 (ev_base hN579 rfl q579_45) (Src.ofRd Try.underlying22 (by decide) (RdC.ofBx (sz := 1) (n := 1) hB570 rfl (by decide)) (by simp [Value.oneCell', u8v])) (by unfold maxLen; omega) (by omega) hb.size ?_
      intro v580 w581 hO583 E582 hm584
      have z_w581 := E582.size
      have hv := hv.keepO hP585 E582 (by omega)
      have hB493 := hB493.keepO hP585 E582 (by decide)
      have hB570 := hB570.keep E582 (fun hh => xq579_45_0 hh.symm)
      have hb := below_stepO hb hP585 E582 hb.size (by omega)
      have hO583 : Own w581 w.heap.size 5 1 v580 ((((0 + bl.length) + 1) + x.s.length) + 1) (((((bl ++ [2]) ++ x.s) ++ [0])).map u8v) := by simpa [u8v] using hO583
      exact obCc_end rfl rfl (chP_now (w := w581)) hO583 ⟨E582, hm584⟩
    · -- behind the region
      intro a586 w586 v571 hN586 hd586 hbs586 hph586 hC586 E586 hm586
      have hd586 := hd586.trans hd
      have s586_0 : a586.tmps.getD 0 undef = v499 := (hbs586 0 rfl).trans (sl_hit hN rfl)
      have s586_1 : a586.tmps.getD 1 undef = (Value.agg #[(Value.int .i64 x.k), (Value.int .i64 x.n), (Value.string (bs x.s))]) := (hbs586 1 rfl).trans (sl_base hN rfl s1)
      have s586_3 : a586.tmps.getD 3 undef = (ptr b491 0) := (hbs586 3 rfl).trans (sl_hit hN rfl)
      have s586_4 : a586.tmps.getD 4 undef = v571 := (show chP 2 3 v571 (a586.tmps.getD 4 undef) w586 from hph586 8 _ 4 rfl rfl).2 rfl
      have s586_8 : a586.tmps.getD 8 undef = (Value.slice (some ⟨b496, 0, none⟩) 0 0) := (hbs586 8 rfl).trans (sl_hit hN rfl)
      have s586_9 : a586.tmps.getD 9 undef = v := (hbs586 9 rfl).trans (sl_hit hN rfl)
      have s586_10 : a586.tmps.getD 10 undef = v499 := (hbs586 10 rfl).trans (sl_hit hN rfl)
      have s586_11 : a586.tmps.getD 11 undef = (ptr b491 0) := (hbs586 11 rfl).trans (sl_hit hN rfl)
      have s586_12 : a586.tmps.getD 12 undef = (Value.int .i64 x.k) := (hbs586 12 rfl).trans (sl_hit hN rfl)
      have s586_13 : a586.tmps.getD 13 undef = (Value.bool false) := (hbs586 13 rfl).trans (sl_hit hN rfl)
      have s586_39 : a586.tmps.getD 39 undef = v499 := hph586 0 _ 39 rfl rfl
      obtain ⟨b552, s586_40, l586_0, hB554, xq586_40_0⟩ := hph586 1 _ 40 rfl rfl
      have hB554 : Bx w586 b552 5 [(Value.int .u8 2)] := hB554
      have s586_42 : a586.tmps.getD 42 undef = (ptr b491 2) := hph586 3 _ 42 rfl rfl
      have s586_43 : a586.tmps.getD 43 undef = (Value.string (bs x.s)) := hph586 4 _ 43 rfl rfl
      obtain ⟨b568, s586_45, l586_0, hB570, xq586_45_0⟩ := hph586 6 _ 45 rfl rfl
      have hB570 : Bx w586 b568 5 [(Value.int .u8 0)] := hB570
      have s586_46 : a586.tmps.getD 46 undef = v571 := (show chP 2 3 v571 (a586.tmps.getD 46 undef) w586 from hph586 7 _ 46 rfl rfl).2 rfl
      clear hbs586 hph586
      have E586 : w500.grownBy w586 v499.ownBlock := E586
      have hC586 : Own w586 w.heap.size 5 1 v571 ((((0 + bl.length) + 1) + x.s.length) + 1) (((((bl ++ [2]) ++ x.s) ++ [0])).map u8v) := hC586
      have z_w586 := E586.size
      have hv := hv.keepO hO502 E586 (by omega)
      have hB493 := hB493.keepO hO502 E586 (by decide)
      have hb := below_stepO hb hO502 E586 hb.size (by omega)
      refine hK550 _ _ ?_
      refine wp_ret ?_
      refine ret1 rfl hd586 (ev_base hN586 rfl s586_4) ⟨_, rfl, ?_⟩
      -- path 13F
      exact ⟨hb, by simpa [keyR, c13, Nat.add_assoc, Nat.add_comm, Nat.add_left_comm] using hC586⟩

end Go.Proofs.Ytkkongnmcfdioaa
