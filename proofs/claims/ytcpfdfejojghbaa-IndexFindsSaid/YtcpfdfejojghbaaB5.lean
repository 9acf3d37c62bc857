/- Walks, written by a program: what each function of the translation hands back. -/
import Derived.Test.YtcpfdfejojghbaaProg
import Derived.KernelRfl
import Derived.Test.YtcpfdfejojghbaaB4
set_option linter.unusedVariables false
set_option linter.unusedSimpArgs false

namespace Go.Proofs.Ytcpfdfejojghbaa
open Go.Gx Go.RowKit
attribute [local irreducible] wpList wpStill Code.wp Calls
open Go.Bt
theorem IndexFinds_ret (b c : List UInt8) (pick : UInt8) (vb vc : Value) (w : World) (hbl : b.length ≤ 9223372036854775807) (hcl : c.length ≤ 9223372036854775807) (hb9 : RdC w 0 w.heap.size 1 vb b.length (b.map u8v)) (hc9 : RdC w 0 w.heap.size 1 vc c.length (c.map u8v)) : Ret Try.prog 10 #[vb, vc, (Value.int .u8 (pick.toNat : Int))] w (fun v' w' => Below w.heap.size w w' ∧ v' = .bool true) := by
 have hpk := pick.toNat_lt
 have hb := Below.refl w.heap.size w
 refine enter (N := 184) Try.func10 rfl rfl (by simp) fun a0 hN hd hA => ?_
 have s0 : a0.tmps.getD 0 undef = vb := hA 0 (by simp)
 have s1 : a0.tmps.getD 1 undef = vc := hA 1 (by simp)
 have s2 : a0.tmps.getD 2 undef = (Value.int .u8 (pick.toNat : Int)) := hA 2 (by simp)
 clear hA
 refine seq_any fun K1 hK1 => one_reg ?_
 refine op_assign rfl (reg_nil (hK1 _ _ (seq_any fun K2 hK2 => seq_any fun K3 hK3 => one_reg (op_fn (vs := []) ok35 trivial (begun16_ret _) ?_))))
 rintro _ w4 ⟨E5, rfl⟩
 have E5 := grown_of_below E5
 have z_w4 := E5.size
 have hb9 := hb9.keep0 E5
 have hc9 := hc9.keep0 E5
 have hb := below_step0 hb E5 hb.size
 refine op_not (ev_hit hN rfl) ?_
 refine reg_nil (hK3 _ _ (wp_cond_false (ev_hit hN rfl) ?_))
 refine wp_skip (hK2 _ _ (seq_any fun K6 hK6 => seq_any fun K7 hK7 => one_reg (op_move (ev_base hN rfl s0) (op_len_rd Try.underlying27 (ev_hit hN rfl) hb9 ?_))))
 refine op_gtr (ev_hit hN rfl) rfl (fun c30 => ?_) (fun c30 => ?_)
 ·
  refine op_move (ev_hit hN rfl) (g_false (j := 3) (dj := 31) (b := false) rfl rfl rfl (ev_hit hN rfl) rfl rfl (g_false (j := 3) (dj := 31) (b := false) rfl rfl rfl (ev_hit hN rfl) rfl rfl (g_false (j := 3) (dj := 31) (b := false) rfl rfl rfl (ev_hit hN rfl) rfl rfl (op_pick_t (ev_hit hN rfl) rfl ?_))))
  refine reg_nil (hK7 _ _ ?_)
  refine wp_cond_true (ev_hit hN rfl) (seq_any fun K8 hK8 => one_reg (op_assign rfl (reg_nil (hK8 _ _ (wp_ret (then_ret ( ?_)))))))
  refine ret1 rfl hd (ev_hit hN rfl) ⟨_, rfl, ?_⟩
  exact ⟨hb, rfl⟩
 ·
  refine op_move (ev_hit hN rfl) (g_true (j := 3) (dj := 31) (b := false) rfl rfl rfl (ev_hit hN rfl) (op_move (ev_base hN rfl s1) (g_true (j := 3) (dj := 31) (b := false) rfl rfl rfl (ev_hit hN rfl) (op_len_rd Try.underlying27 (ev_hit hN rfl) hc9 ?_))))
  refine g_true (j := 3) (dj := 31) (b := false) rfl rfl rfl (ev_hit hN rfl) (op_gtr (ev_hit hN rfl) rfl (fun c34 => ?_) (fun c34 => ?_))
  ·
   refine op_pick_f (ev_hit hN rfl) (ev_hit hN rfl) ?_
   refine reg_nil (hK7 _ _ ?_)
   refine wp_cond_true (ev_hit hN rfl) (seq_any fun K9 hK9 => one_reg (op_assign rfl (reg_nil (hK9 _ _ (wp_ret (then_ret ( ?_)))))))
   refine ret1 rfl hd (ev_hit hN rfl) ⟨_, rfl, ?_⟩
   exact ⟨hb, rfl⟩
  ·
   refine op_pick_f (ev_hit hN rfl) (ev_hit hN rfl) ?_
   refine reg_nil ?_
   refine hK7 _ _ (wp_cond_false (ev_hit hN rfl) (wp_skip (hK6 _ _ (seq_any fun K10 hK10 => one_reg (op_build (pv := [(0, (Value.int .i64 1))]) (v := (Value.agg #[(Value.int .i64 1), (Value.int .i64 0), (Value.string (bs []))])) ⟨rfl, rfl, trivial⟩ (by kernel_rfl) ?_)))))
   refine op_build (pv := [(0, (Value.int .i64 1)), (1, (Value.int .i64 (-1)))]) (v := (Value.agg #[(Value.int .i64 1), (Value.int .i64 (-1)), (Value.string (bs []))])) ⟨rfl, rfl, ⟨rfl, rfl, trivial⟩⟩ (by kernel_rfl) ?_
   refine op_build (pv := [(0, (Value.int .i64 1)), (1, (Value.int .i64 1099511627776))]) (v := (Value.agg #[(Value.int .i64 1), (Value.int .i64 1099511627776), (Value.string (bs []))])) ⟨rfl, rfl, ⟨rfl, rfl, trivial⟩⟩ (by kernel_rfl) ?_
   refine op_build (pv := [(0, (Value.int .i64 2))]) (v := (Value.agg #[(Value.int .i64 2), (Value.int .i64 0), (Value.string (bs []))])) ⟨rfl, rfl, trivial⟩ (by kernel_rfl) ?_
   refine op_build (pv := [(0, (Value.int .i64 2)), (2, (Value.string (bs [97])))]) (v := (Value.agg #[(Value.int .i64 2), (Value.int .i64 0), (Value.string (bs [97]))])) ⟨rfl, rfl, ⟨rfl, rfl, trivial⟩⟩ (by kernel_rfl) ?_
   refine op_build (pv := [(0, (Value.int .i64 2)), (2, (Value.string (bs [97, 98])))]) (v := (Value.agg #[(Value.int .i64 2), (Value.int .i64 0), (Value.string (bs [97, 98]))])) ⟨rfl, rfl, ⟨rfl, rfl, trivial⟩⟩ (by kernel_rfl) ?_
   refine op_bslice (e := 74) (pv := [(0, (Value.agg #[(Value.int .i64 1), (Value.int .i64 0), (Value.string (bs []))])), (1, (Value.agg #[(Value.int .i64 1), (Value.int .i64 (-1)), (Value.string (bs []))])), (2, (Value.agg #[(Value.int .i64 1), (Value.int .i64 1099511627776), (Value.string (bs []))])), (3, (Value.agg #[(Value.int .i64 2), (Value.int .i64 0), (Value.string (bs []))])), (4, (Value.agg #[(Value.int .i64 2), (Value.int .i64 0), (Value.string (bs [97]))])), (5, (Value.agg #[(Value.int .i64 2), (Value.int .i64 0), (Value.string (bs [97, 98]))]))]) (cs := [(Value.int .i64 1), (Value.int .i64 0), (Value.string (bs [])), (Value.int .i64 1), (Value.int .i64 (-1)), (Value.string (bs [])), (Value.int .i64 1), (Value.int .i64 1099511627776), (Value.string (bs [])), (Value.int .i64 2), (Value.int .i64 0), (Value.string (bs [])), (Value.int .i64 2), (Value.int .i64 0), (Value.string (bs [97])), (Value.int .i64 2), (Value.int .i64 0), (Value.string (bs [97, 98]))]) ⟨rfl, (ev_hit hN rfl), ⟨rfl, (ev_hit hN rfl), ⟨rfl, (ev_hit hN rfl), ⟨rfl, (ev_hit hN rfl), ⟨rfl, (ev_hit hN rfl), ⟨rfl, (ev_hit hN rfl), trivial⟩⟩⟩⟩⟩⟩ (by kernel_rfl) ?_
   intro w11 b12 lo_b12 hi_b12 hB14 E13
   have z_w11 := E13.size
   have hb9 := hb9.keep0 E13
   have hc9 := hc9.keep0 E13
   have hb := below_step0 hb E13 hb.size
   refine op_assign (ev_hit hN rfl) (reg_nil (hK10 _ _ (seq_any fun K15 hK15 => one_reg (op_bslice (e := 37) (pv := [(0, (Value.int .u16 1))]) (cs := [(Value.int .u16 1)]) ⟨rfl, rfl, trivial⟩ (by kernel_rfl) ?_))))
   intro w16 b17 lo_b17 hi_b17 hB19 E18
   have z_w16 := E18.size
   have hb9 := hb9.keep0 E18
   have hc9 := hc9.keep0 E18
   have hB14 := hB14.keep0 E18
   have hb := below_step0 hb E18 hb.size
   refine op_bslice (e := 37) (pv := [(0, (Value.int .u16 2))]) (cs := [(Value.int .u16 2)]) ⟨rfl, rfl, trivial⟩ (by kernel_rfl) ?_
   intro w20 b21 lo_b21 hi_b21 hB23 E22
   have z_w20 := E22.size
   have hb9 := hb9.keep0 E22
   have hc9 := hc9.keep0 E22
   have hB14 := hB14.keep0 E22
   have hB19 := hB19.keep0 E22
   have hb := below_step0 hb E22 hb.size
   refine op_bslice (e := 37) (pv := [(0, (Value.int .u16 1)), (1, (Value.int .u16 2))]) (cs := [(Value.int .u16 1), (Value.int .u16 2)]) ⟨rfl, rfl, ⟨rfl, rfl, trivial⟩⟩ (by kernel_rfl) ?_
   intro w24 b25 lo_b25 hi_b25 hB27 E26
   have z_w24 := E26.size
   have hb9 := hb9.keep0 E26
   have hc9 := hc9.keep0 E26
   have hB14 := hB14.keep0 E26
   have hB19 := hB19.keep0 E26
   have hB23 := hB23.keep0 E26
   have hb := below_step0 hb E26 hb.size
   refine op_bslice (e := 76) (pv := [(0, (Value.slice none 0 0)), (1, (Value.slice (some ⟨b17, 0, none⟩) 1 1)), (2, (Value.slice (some ⟨b21, 0, none⟩) 1 1)), (3, (Value.slice (some ⟨b25, 0, none⟩) 2 2))]) (cs := [(Value.slice none 0 0), (Value.slice (some ⟨b17, 0, none⟩) 1 1), (Value.slice (some ⟨b21, 0, none⟩) 1 1), (Value.slice (some ⟨b25, 0, none⟩) 2 2)]) ⟨rfl, rfl, ⟨rfl, (ev_hit hN rfl), ⟨rfl, (ev_hit hN rfl), ⟨rfl, (ev_hit hN rfl), trivial⟩⟩⟩⟩ (by kernel_rfl) ?_
   intro w28 b29 lo_b29 hi_b29 hB31 E30
   have z_w28 := E30.size
   have hb9 := hb9.keep0 E30
   have hc9 := hc9.keep0 E30
   have hB14 := hB14.keep0 E30
   have hB19 := hB19.keep0 E30
   have hB23 := hB23.keep0 E30
   have hB27 := hB27.keep0 E30
   have hb := below_step0 hb E30 hb.size
   refine op_assign (ev_hit hN rfl) (reg_nil (hK15 _ _ (seq_any fun K32 hK32 => one_reg (op_fn (vs := []) ok22 trivial (newLI) ?_))))
   rintro _ w34 ⟨E35, p33, F33, rfl, hT33⟩
   have E35 := grown_of_below E35
   have hlo36 : ∀ k, F33 k → w28.heap.size ≤ k := fun k hk => (hT33.lt k hk).1
   have z_w34 := E35.size
   have hb9 := hb9.keep0 E35
   have hc9 := hc9.keep0 E35
   have hB14 := hB14.keep0 E35
   have hB19 := hB19.keep0 E35
   have hB23 := hB23.keep0 E35
   have hB27 := hB27.keep0 E35
   have hB31 := hB31.keep0 E35
   have hb := below_step0 hb E35 hb.size
   have hT33 : TopL kI 71 w.heap.size w34 p33 [] F33 := hT33.rebase (by omega)
   refine op_assign (ev_hit hN rfl) (reg_nil (hK32 _ _ (seq_any fun K42 hK42 => one_reg ?_)))
   have hvals := vals_mk (B := w28.heap.size) hB14 (by omega)
   obtain ⟨LV, hLVs, hLVl, hlabs, hlall⟩ := labs_mk (B := w28.heap.size) hB19 hB23 hB27 hB31 (by omega) (by omega) (by omega) (by omega)
   have hW6 := W6_len
   refine op_assign rfl (reg_nil (hK42 _ _ ?_))
   refine seq_any fun K43 hK43 => seq_any fun K44 hK44 => one_reg (op_assign rfl (reg_nil (hK44 _ _ (wp_block ?_))))
   refine loop_m (fun mz_ az_ w' => ∃ (i n : Nat) (M : List (Ky × Int)) (FT : Nat → Prop), mz_ = b.length - i ∧ (az_.tmps.getD 0 undef = vb) ∧ (az_.tmps.getD 1 undef = vc) ∧ (az_.tmps.getD 2 undef = (Value.int .u8 (pick.toNat : Int))) ∧ (az_.tmps.getD 6 undef = (Value.bool false)) ∧ (az_.tmps.getD 7 undef = (Value.slice (some ⟨b12, 0, none⟩) 6 6)) ∧ (az_.tmps.getD 8 undef = (Value.slice (some ⟨b29, 0, none⟩) 4 4)) ∧ (az_.tmps.getD 9 undef = (ptr p33 0)) ∧ (az_.tmps.getD 11 undef = (Value.int .i64 ((i : Nat) : Int))) ∧ (az_.tmps.getD 10 undef = (Value.int .i64 ((n : Nat) : Int))) ∧ (i ≤ b.length) ∧ (n ≤ i) ∧ (∀ k, FT k → w28.heap.size ≤ k) ∧ (InX (XW b) (LW c) (W6.getD (pick.toNat % 6) V0) i n M) ∧ (Below w.heap.size w w') ∧ (w34.heap.size ≤ w'.heap.size) ∧ (RdC w' 0 w.heap.size 1 vb b.length (b.map u8v)) ∧ (RdC w' 0 w.heap.size 1 vc c.length (c.map u8v)) ∧ (RdC w' 0 w28.heap.size 3 (Value.slice (some ⟨b12, 0, none⟩) 6 6) W6.length (W6.flatMap cellsV)) ∧ (RdC w' 0 w28.heap.size 1 (Value.slice (some ⟨b29, 0, none⟩) 4 4) LV.length (LV.flatMap (fun x9 => [x9.1]))) ∧ (∀ x9 ∈ LV, RdC w' 0 w28.heap.size 1 x9.1 x9.2.length (x9.2.map u16v)) ∧ (TopL kI 71 w.heap.size w' p33 M FT)) _ hN hd ⟨0, 0, [], F33, rfl, (sl_base hN rfl s0), (sl_base hN rfl s1), (sl_base hN rfl s2), (sl_hit hN rfl), (sl_hit hN rfl), (sl_hit hN rfl), (sl_hit hN rfl), (sl_hit hN rfl), (sl_hit hN rfl), (Nat.zero_le _), (Nat.le_refl _), hlo36, InX.nil, hb, (Nat.le_refl _), hb9, hc9, hvals, hlabs, hlall, hT33⟩ ?_
   rintro _ a45 w45 hN45 hd45 ⟨i, n, M, FT, rfl, s45_0, s45_1, s45_2, s45_6, s45_7, s45_8, s45_9, s45_11, s45_10, hi, hn, hlo, hIn, hb, zl_w45, hb9, hc9, hvals, hlabs, hlall, hTM⟩
   have z_w45 := hb.size
   refine seq_any fun K46 hK46 => seq_any fun K47 hK47 => one_reg (op_move (ev_base hN45 rfl s45_11) (op_move (ev_base hN45 rfl s45_0) (op_len_rd Try.underlying27 (ev_hit hN45 rfl) hb9 ?_)))
   refine op_lss (ev_hit hN45 rfl) (ev_hit hN45 rfl) (fun c51 => ?_) (fun c51 => ?_)
   ·
    refine reg_nil (hK47 _ _ (wp_cond_true (ev_hit hN45 rfl) (wp_skip (hK46 _ _ (seq_any fun K48 hK48 => wp_block ?_)))))
    refine seq_any fun K49 hK49 => one_reg (op_assign rfl (reg_nil (hK49 _ _ ?_)))
    refine seq_join1 (N := 184) (fun az_ w' => ∃ (m : Nat), (az_.tmps.getD 0 undef = vb) ∧ (az_.tmps.getD 1 undef = vc) ∧ (az_.tmps.getD 2 undef = (Value.int .u8 (pick.toNat : Int))) ∧ (az_.tmps.getD 6 undef = (Value.bool false)) ∧ (az_.tmps.getD 7 undef = (Value.slice (some ⟨b12, 0, none⟩) 6 6)) ∧ (az_.tmps.getD 8 undef = (Value.slice (some ⟨b29, 0, none⟩) 4 4)) ∧ (az_.tmps.getD 9 undef = (ptr p33 0)) ∧ (az_.tmps.getD 10 undef = (Value.int .i64 ((n : Nat) : Int))) ∧ (az_.tmps.getD 11 undef = (Value.int .i64 ((i : Nat) : Int))) ∧ (az_.tmps.getD 12 undef = (Value.int .i64 ((m : Nat) : Int))) ∧ (m = gnum c i) ∧ (Below w.heap.size w w') ∧ (w45.heap.size ≤ w'.heap.size) ∧ (RdC w' 0 w.heap.size 1 vb b.length (b.map u8v)) ∧ (RdC w' 0 w.heap.size 1 vc c.length (c.map u8v)) ∧ (RdC w' 0 w28.heap.size 3 (Value.slice (some ⟨b12, 0, none⟩) 6 6) W6.length (W6.flatMap cellsV)) ∧ (RdC w' 0 w28.heap.size 1 (Value.slice (some ⟨b29, 0, none⟩) 4 4) LV.length (LV.flatMap (fun x9 => [x9.1]))) ∧ (∀ x9 ∈ LV, RdC w' 0 w28.heap.size 1 x9.1 x9.2.length (x9.2.map u16v)) ∧ (TopL kI 71 w.heap.size w' p33 M FT)) (fun hJ50 => ?_) ?_
    ·
     refine seq_any fun K51 hK51 => seq_any fun K52 hK52 => one_reg (op_move (ev_base hN45 rfl s45_11) (op_move (ev_base hN45 rfl s45_1) (op_len_rd Try.underlying27 (ev_hit hN45 rfl) hc9 ?_)))
     refine op_lss (ev_hit hN45 rfl) (ev_hit hN45 rfl) (fun c57 => ?_) (fun c57 => ?_)
     ·
      refine reg_nil (hK52 _ _ (wp_cond_true (ev_hit hN45 rfl) (one_reg (op_move (ev_base hN45 rfl s45_1) (op_move (ev_base hN45 rfl s45_11) (op_index_rd slt27 (ev_hit hN45 rfl) hc9 (ev_hit hN45 rfl) (by omega) (by omega) ?_))))))
      intro b53 o54 h0b53 h1b53 hc55
      refine op_load1 (v := (Value.int .u8 ((c.getD i 0).toNat : Int))) one5 (ev_hit hN45 rfl) (by have := hc55 0 (Value.int .u8 ((c.getD i 0).toNat : Int)) (by decide) (el_u8 (i := i) (by omega) (by omega)); simpa using this) (op_rem (r := (((c.getD i 0).toNat % 4 : Nat) : Int)) (ev_hit hN45 rfl) rfl (by decide) (by rw [Int.tmod_eq_emod_of_nonneg (by omega)]; omega) ?_)
      refine op_conv (r := (((c.getD i 0).toNat % 4 : Nat) : Int)) (ev_hit hN45 rfl) us5 Try.underlying3 (wrap_i64 (by omega)) ?_
      refine op_assign (ev_hit hN45 rfl) (reg_nil (hK51 _ _ ?_))
      exact hJ50 _ _ _ hN45 hd45 ⟨_, (sl_base hN45 rfl s45_0), (sl_base hN45 rfl s45_1), (sl_base hN45 rfl s45_2), (sl_base hN45 rfl s45_6), (sl_base hN45 rfl s45_7), (sl_base hN45 rfl s45_8), (sl_base hN45 rfl s45_9), (sl_base hN45 rfl s45_10), (sl_base hN45 rfl s45_11), (sl_hit hN45 rfl), (by unfold gnum; rw [if_pos (by omega)]), hb, (by omega), hb9, hc9, hvals, hlabs, hlall, hTM⟩
     ·
      refine reg_nil (hK52 _ _ (wp_cond_false (ev_hit hN45 rfl) (wp_skip (hK51 _ _ ?_))))
      exact hJ50 _ _ _ hN45 hd45 ⟨_, (sl_base hN45 rfl s45_0), (sl_base hN45 rfl s45_1), (sl_base hN45 rfl s45_2), (sl_base hN45 rfl s45_6), (sl_base hN45 rfl s45_7), (sl_base hN45 rfl s45_8), (sl_base hN45 rfl s45_9), (sl_base hN45 rfl s45_10), (sl_base hN45 rfl s45_11), (sl_hit hN45 rfl), (by unfold gnum; rw [if_neg (by omega)]), hb, (by omega), hb9, hc9, hvals, hlabs, hlall, hTM⟩
    ·
     rintro a50 w50 hN50 hd50 ⟨m, s50_0, s50_1, s50_2, s50_6, s50_7, s50_8, s50_9, s50_10, s50_11, s50_12, hm, hb, zl_w50, hb9, hc9, hvals, hlabs, hlall, hTM⟩
     have z_w50 := hb.size
     refine seq_any fun K56 hK56 => one_reg ?_
     have hm4 : m < 4 := hm ▸ gnum_lt c i
     have hlab : RdC w50 0 w28.heap.size 1 (LV.getD m default).1 (LV.getD m default).2.length ((LV.getD m default).2.map u16v) := hlall _ (getD_mem9 (by omega))
     have hLe : (LV.getD m default).2 = LW c i := by unfold LW; rw [← hm, ← hLVs, List.getD_eq_getElem?_getD, List.getD_eq_getElem?_getD, List.getElem?_map]; cases LV[m]? <;> rfl
     have hlab8 : (LV.getD m default).2.length ≤ 8 := by rw [hLe]; exact mayL_len (LW_may c i)
     have hsM := hTM.sorted
     have hxok := XW_ok b i
     have hxlen : (W6.getD ((b.getD i 0).toNat % 6) V0).s.length ≤ 30 := may_len hxok.1
     have hxs5 : (W6.getD ((b.getD i 0).toNat % 6) V0).s.length ≤ 100000 := Nat.le_trans hxlen (by decide)
     have hkx9 : (keyX (W6.getD ((b.getD i 0).toNat % 6) V0) (LV.getD m default).2 i).length ≤ 1000000000 := by rw [keyX_len]; have := keyV_le (W6.getD ((b.getD i 0).toNat % 6) V0); omega
     have hxn9 : -9223372036854775808 ≤ (W6.getD ((b.getD i 0).toNat % 6) V0).n ∧ (W6.getD ((b.getD i 0).toNat % 6) V0).n ≤ 9223372036854775807 := hxok.2.2.1
     have hV9 : ((W6.getD ((b.getD i 0).toNat % 6) V0).k = (W6.getD (pick.toNat % 6) V0).k ∧ (W6.getD ((b.getD i 0).toNat % 6) V0).n = (W6.getD (pick.toNat % 6) V0).n ∧ (W6.getD ((b.getD i 0).toNat % 6) V0).s = (W6.getD (pick.toNat % 6) V0).s) ↔ XW b i = (W6.getD (pick.toNat % 6) V0) := vl_iff (x := (W6.getD ((b.getD i 0).toNat % 6) V0)) (y := (W6.getD (pick.toNat % 6) V0))
     refine op_move (ev_base hN50 rfl s50_7) (op_move (ev_base hN50 rfl s50_0) (op_move (ev_base hN50 rfl s50_11) (op_index_rd slt27 (ev_hit hN50 rfl) hb9 (ev_hit hN50 rfl) (by omega) (by omega) ?_)))
     intro b57 o58 h0b57 h1b57 hc59
     refine op_load1 (v := (Value.int .u8 ((b.getD i 0).toNat : Int))) one5 (ev_hit hN50 rfl) (by have := hc59 0 (Value.int .u8 ((b.getD i 0).toNat : Int)) (by decide) (el_u8 (i := i) (by omega) (by omega)); simpa using this) (op_conv (r := ((b.getD i 0).toNat : Int)) (ev_hit hN50 rfl) us5 Try.underlying3 (wrap_i64 (by have := ((b.getD i 0)).toNat_lt; omega)) ?_)
     refine op_rem (r := (((b.getD i 0).toNat % 6 : Nat) : Int)) (ev_hit hN50 rfl) rfl (by decide) (by rw [Int.tmod_eq_emod_of_nonneg (by omega)]; omega) ?_
     refine op_index_rd slt75 (ev_hit hN50 rfl) hvals (ev_hit hN50 rfl) (by omega) (by omega) ?_
     intro b60 o61 h0b60 h1b60 hc62
     refine op_loadA (cs := [(Value.int .i64 (W6.getD ((b.getD i 0).toNat % 6) V0).k), (Value.int .i64 (W6.getD ((b.getD i 0).toNat % 6) V0).n), (Value.string (bs (W6.getD ((b.getD i 0).toNat % 6) V0).s))]) agg74 rfl (ev_hit hN50 rfl) (fun j u hu => hc62 j u (by have := (List.getElem?_eq_some_iff.1 hu).1; simpa using this) ((fun j u hu => el_val (l := W6) (i := ((b.getD i 0).toNat % 6)) (by omega) (by omega) hu) j u hu)) ?_
     refine op_alloc (cs := [(Value.int .i64 0), (Value.int .i64 0), (Value.string (bs []))]) zero74 rfl ?_
     intro w63 b64 lo_b64 hi_b64 hB66 E65
     have dj67 : ¬ FT b64 := fun hf => by have := (hTM.lt _ hf).2; omega
     have z_w63 := E65.size
     have hb9 := hb9.keep0 E65
     have hc9 := hc9.keep0 E65
     have hvals := hvals.keep0 E65
     have hlabs := hlabs.keep0 E65
     have hlall := all9 hlall fun _ h => h.keep0 E65
     have hTM := hTM.kz E65
     have hlab := hlab.keep0 E65
     have hb := below_step0 hb E65 hb.size
     refine op_store (vs := [(Value.int .i64 (W6.getD ((b.getD i 0).toNat % 6) V0).k), (Value.int .i64 (W6.getD ((b.getD i 0).toNat % 6) V0).n), (Value.string (bs (W6.getD ((b.getD i 0).toNat % 6) V0).s))]) (cs' := [(Value.int .i64 (W6.getD ((b.getD i 0).toNat % 6) V0).k), (Value.int .i64 (W6.getD ((b.getD i 0).toNat % 6) V0).n), (Value.string (bs (W6.getD ((b.getD i 0).toNat % 6) V0).s))]) size74 (ev_hit hN50 rfl) (ev_hit hN50 rfl) rfl rfl rfl hB66 (Nat.le_of_ble_eq_true rfl) rfl ?_
     intro w70 hB66 E71
     have z_w70 := E71.size
     have hb9 := hb9.keep E71 (fun k hk => .inr (by simp at hk; omega))
     have hc9 := hc9.keep E71 (fun k hk => .inr (by simp at hk; omega))
     have hvals := hvals.keep E71 (fun k hk => .inr (by simp at hk; omega))
     have hlabs := hlabs.keep E71 (fun k hk => .inr (by simp at hk; omega))
     have hlall := all9 hlall fun _ h => h.keep E71 (fun k hk => .inr (by simp at hk; omega))
     have hTM := hTM.keepG (Gr.of E71) (Dj.one dj67)
     have hlab := hlab.keep E71 (fun k hk => .inr (by simp at hk; omega))
     have hb := below_step1 hb E71 hb.size (by omega)
     refine reg_nil (hK56 _ _ (seq_any fun K72 hK72 => ?_))
     obtain ⟨b73, o74, hAt75⟩ := hlabs.atV (i := m) (by decide) (by omega)
     refine reg_env (φ := phiV [(fun uz => uz = (ptr p33 0)), (fun uz => uz = (Value.agg #[(Value.int .i64 (W6.getD ((b.getD i 0).toNat % 6) V0).k), (Value.int .i64 (W6.getD ((b.getD i 0).toNat % 6) V0).n), (Value.string (bs (W6.getD ((b.getD i 0).toNat % 6) V0).s))])), (fun uz => uz = (Value.slice (some ⟨b29, 0, none⟩) 4 4)), (fun uz => uz = (Value.int .i64 ((m : Nat) : Int))), (fun uz => uz = (ptr b73 o74)), (fun uz => uz = (LV.getD m default).1), (fun uz => uz = (Value.int .i64 ((i : Nat) : Int))), (fun uz => uz = (Value.int .u64 ((i : Nat) : Int))), (fun _ => True), (fun uz => uz = (Value.int .i64 ((i : Nat) : Int))), (fun _ => True)]) (G := fun w' => RdC w' 0 w28.heap.size 1 (Value.slice (some ⟨b29, 0, none⟩) 4 4) LV.length (LV.flatMap (fun x9 => [x9.1])) ∧ Bx w' b64 74 [(Value.int .i64 (W6.getD ((b.getD i 0).toNat % 6) V0).k), (Value.int .i64 (W6.getD ((b.getD i 0).toNat % 6) V0).n), (Value.string (bs (W6.getD ((b.getD i 0).toNat % 6) V0).s))]) [8, 10] mixed (by kernel_rfl) (by kernel_rfl) (by kernel_rfl) (by kernel_rfl) hN50 (fun w1 w2 E h => by obtain ⟨h0, h1⟩ := h; exact ⟨h0.keep0 E, h1.keep0 E⟩) ⟨hlabs, hB66⟩ (ObEs.cons ?_ (ObEs.cons ?_ (ObEs.cons ?_ (ObEs.cons ?_ (ObEs.cons ?_ (ObEs.cons ?_ (ObEs.cons ?_ (ObEs.cons ?_ (ObEs.pass rfl (ObEs.cons ?_ (ObEs.pass rfl (ObEs.nil)))))))))))) (by simp only [putsL_defers]) ?_
     ·
      intro eA aA wA hNA hGA hbsA hdpA
      have qA_9 := (hbsA 9 rfl).trans (sl_base hN50 rfl s50_9)
      refine op_move (ev_base hNA rfl qA_9) ?_
      exact obE_end rfl rfl rfl
     ·
      intro eA aA wA hNA hGA hbsA hdpA
      have qA_13 := (hbsA 13 rfl).trans (sl_hit hN50 rfl)
      obtain ⟨hlabs, hB66⟩ := hGA
      refine op_loadA (cs := [(Value.int .i64 (W6.getD ((b.getD i 0).toNat % 6) V0).k), (Value.int .i64 (W6.getD ((b.getD i 0).toNat % 6) V0).n), (Value.string (bs (W6.getD ((b.getD i 0).toNat % 6) V0).s))]) agg74 rfl (ev_base hNA rfl qA_13) (fun j u hu => by rw [Nat.zero_add]; exact hB66.cell hu) ?_
      exact obE_end rfl rfl rfl
     ·
      intro eA aA wA hNA hGA hbsA hdpA
      have qA_8 := (hbsA 8 rfl).trans (sl_base hN50 rfl s50_8)
      refine op_move (ev_base hNA rfl qA_8) ?_
      exact obE_end rfl rfl rfl
     ·
      intro eA aA wA hNA hGA hbsA hdpA
      have qA_12 := (hbsA 12 rfl).trans (sl_base hN50 rfl s50_12)
      refine op_move (ev_base hNA rfl qA_12) ?_
      exact obE_end rfl rfl rfl
     ·
      intro eA aA wA hNA hGA hbsA hdpA
      have qA_75 : Sl aA 75 (Value.slice (some ⟨b29, 0, none⟩) 4 4) := (hdpA 2 _ 75 (by kernel_rfl) rfl rfl).2 rfl
      have qA_76 : Sl aA 76 (Value.int .i64 ((m : Nat) : Int)) := (hdpA 3 _ 76 (by kernel_rfl) rfl rfl).2 rfl
      refine op_index_atR (i := m) slt77 (ev_base hNA rfl qA_75) hlabs (by decide) (ev_base hNA rfl qA_76) (by omega) (by omega) hAt75 ?_
      exact obE_end rfl rfl rfl
     ·
      intro eA aA wA hNA hGA hbsA hdpA
      have qA_77 : Sl aA 77 (ptr b73 o74) := (hdpA 4 _ 77 (by kernel_rfl) rfl rfl).2 rfl
      obtain ⟨hlabs, hB66⟩ := hGA
      refine op_load1 (v := (LV.getD m default).1) one76 (ev_base hNA rfl qA_77) (hlabs.cellAt hAt75 0 _ (el_ll (e := ((m : Nat) : Int)) (i := m) rfl (by omega))) ?_
      exact obE_end rfl rfl rfl
     ·
      intro eA aA wA hNA hGA hbsA hdpA
      have qA_11 := (hbsA 11 rfl).trans (sl_base hN50 rfl s50_11)
      refine op_move (ev_base hNA rfl qA_11) ?_
      exact obE_end rfl rfl rfl
     ·
      intro eA aA wA hNA hGA hbsA hdpA
      have qA_79 : Sl aA 79 (Value.int .i64 ((i : Nat) : Int)) := (hdpA 6 _ 79 (by kernel_rfl) rfl rfl).2 rfl
      obtain ⟨hlabs, hB66⟩ := hGA
      refine op_conv (r := ((i : Nat) : Int)) (ev_base hNA rfl qA_79) us3 Try.underlying79 (wrap_u64 (by omega)) ?_
      exact obE_end rfl rfl rfl
     ·
      intro eA aA wA hNA hGA hbsA hdpA
      have qA_11 := (hbsA 11 rfl).trans (sl_base hN50 rfl s50_11)
      refine op_move (ev_base hNA rfl qA_11) ?_
      exact obE_end rfl rfl rfl
     ·
      intro w76 E76 _ a76 hN76 hbs76 hdp76 o_ ho_; obtain rfl := Option.some.inj ho_
      have z_w76 := E76.size
      have hb9 := hb9.keep0 E76
      have hc9 := hc9.keep0 E76
      have hvals := hvals.keep0 E76
      have hlabs := hlabs.keep0 E76
      have hlall := all9 hlall fun _ h => h.keep0 E76
      have hTM := hTM.kz E76
      have hlab := hlab.keep0 E76
      have hB66 := hB66.keep0 E76
      have hb := below_step0 hb E76 hb.size
      have q76_74 : Sl a76 74 (Value.agg #[(Value.int .i64 (W6.getD ((b.getD i 0).toNat % 6) V0).k), (Value.int .i64 (W6.getD ((b.getD i 0).toNat % 6) V0).n), (Value.string (bs (W6.getD ((b.getD i 0).toNat % 6) V0).s))]) := (hdp76 1 _ 74 (by kernel_rfl) rfl rfl).2 rfl
      have q76_78 : Sl a76 78 (LV.getD m default).1 := (hdp76 5 _ 78 (by kernel_rfl) rfl rfl).2 rfl
      have q76_80 : Sl a76 80 (Value.int .u64 ((i : Nat) : Int)) := (hdp76 7 _ 80 (by kernel_rfl) rfl rfl).2 rfl
      refine op_fn (vs := [(Value.agg #[(Value.int .i64 (W6.getD ((b.getD i 0).toNat % 6) V0).k), (Value.int .i64 (W6.getD ((b.getD i 0).toNat % 6) V0).n), (Value.string (bs (W6.getD ((b.getD i 0).toNat % 6) V0).s))]), (LV.getD m default).1, (Value.int .u64 ((i : Nat) : Int))]) ok36 ⟨(ev_base hN76 rfl q76_74), ⟨(ev_base hN76 rfl q76_78), ⟨(ev_base hN76 rfl q76_80), trivial⟩⟩⟩ (IKey_ret (W6.getD ((b.getD i 0).toNat % 6) V0) (LV.getD m default).2 i _ _ (by first | assumption | omega | (simp only [List.length_append, List.length_cons, List.length_nil, List.length_drop, List.length_take]; omega) | (dsimp only; omega) | decide | (simp [keyV, be8_len]; done)) (by first | assumption | omega | (simp only [List.length_append, List.length_cons, List.length_nil, List.length_drop, List.length_take]; omega) | (dsimp only; omega) | decide | (simp [keyV, be8_len]; done)) (by first | assumption | omega | (simp only [List.length_append, List.length_cons, List.length_nil, List.length_drop, List.length_take]; omega) | (dsimp only; omega) | decide | (simp [keyV, be8_len]; done)) (by first | assumption | omega | (simp only [List.length_append, List.length_cons, List.length_nil, List.length_drop, List.length_take]; omega) | (dsimp only; omega) | decide | (simp [keyV, be8_len]; done)) (show RdC w76 0 w76.heap.size 1 (LV.getD m default).1 (LV.getD m default).2.length ((LV.getD m default).2.map u16v) from by have hh : RdC w76 0 w76.heap.size 1 _ _ _ := (hlab.mono (L' := 0) (B' := w76.heap.size) (Nat.zero_le _) (by omega)); first | exact hh | exact hh.cast (by first | omega | (simp; try omega)) (by first | rfl | simp [u16v]))) ?_
      rintro v77 w78 ⟨E79, hO77⟩
      have dj80 : Dj FT (Bl v77) := Dj.fresh (fun k hk => (hTM.lt k hk).2) (fun k hk => (hO77.lt k hk).1)
      have E79 := grown_of_below E79
      have z_w78 := E79.size
      have hb9 := hb9.keep0 E79
      have hc9 := hc9.keep0 E79
      have hvals := hvals.keep0 E79
      have hlabs := hlabs.keep0 E79
      have hlall := all9 hlall fun _ h => h.keep0 E79
      have hTM := hTM.kz E79
      have hlab := hlab.keep0 E79
      have hB66 := hB66.keep0 E79
      have hb := below_step0 hb E79 hb.size
      have hO77 := hO77.mono (base' := w76.heap.size) (by omega)
      refine ke_end rfl (by decide) rfl ⟨hlabs, hB66⟩ ?_
      intro w81 E81 _ a81 hN81 hbs81 hdp81 o_ ho_; obtain rfl := Option.some.inj ho_
      have z_w81 := E81.size
      have hb9 := hb9.keep0 E81
      have hc9 := hc9.keep0 E81
      have hvals := hvals.keep0 E81
      have hlabs := hlabs.keep0 E81
      have hlall := all9 hlall fun _ h => h.keep0 E81
      have hTM := hTM.kz E81
      have hlab := hlab.keep0 E81
      have hB66 := hB66.keep0 E81
      have hO77 := hO77.keep0 E81
      have hb := below_step0 hb E81 hb.size
      have q81_73 : Sl a81 73 (ptr p33 0) := (hdp81 0 _ 73 (by kernel_rfl) rfl rfl).2 rfl
      have q81_81 : Sl a81 81 v77 := (Option.some.inj ((hdp81 8 _ 81 (by kernel_rfl) rfl rfl).1 0 rfl)).symm
      have q81_82 : Sl a81 82 (Value.int .i64 ((i : Nat) : Int)) := (hdp81 9 _ 82 (by kernel_rfl) rfl rfl).2 rfl
      obtain ⟨L82, B82, hr82, hB82, hq82⟩ := own_at hO77 dj80.symm
      refine op_fn (vs := [(ptr p33 0), v77, (Value.int .i64 ((i : Nat) : Int))]) ok23 ⟨(ev_base hN81 rfl q81_73), ⟨(ev_base hN81 rfl q81_81), ⟨(ev_base hN81 rfl q81_82), trivial⟩⟩⟩ (putLsI (k := (keyX (W6.getD ((b.getD i 0).toNat % 6) V0) (LV.getD m default).2 i)) (x := ((i : Nat) : Int)) hTM hb.size hr82 hB82 hq82 (by first | assumption | (simp; done))) ?_
      rintro _ w84 ⟨E85, rfl, F83, hT83, hN83⟩
      have bd86 := hB66.lt
      have bd87 := hO77.lt
      have hTM_old := hTM
      have z_w84 := E85.size
      have hb9 := hb9.keepG E85 (fun k hk => .inr (by have := hTM_old.lt k hk; omega))
      have hc9 := hc9.keepG E85 (fun k hk => .inr (by have := hTM_old.lt k hk; omega))
      have hvals := hvals.keepG E85 (fun k hk => .inr (hlo k hk))
      have hlabs := hlabs.keepG E85 (fun k hk => .inr (hlo k hk))
      have hlall := all9 hlall fun _ h => h.keepG E85 (fun k hk => .inr (hlo k hk))
      have hlab := hlab.keepG E85 (fun k hk => .inr (hlo k hk))
      have hB66 := hB66.keepG E85 dj67
      have hb := below_stepG hb E85 hb.size (fun k hk => (hTM_old.lt k hk).1)
      refine ke_end rfl (by decide) rfl ⟨hlabs, hB66⟩ ?_
      intro w90 E90 a90 hN90 hd90 hbs90 hph90
      have hd90 := hd90.trans ((by simp only [putsL_defers] : _ = _).trans hd50)
      have z_w90 := E90.size
      have hb9 := hb9.keep0 E90
      have hc9 := hc9.keep0 E90
      have hvals := hvals.keep0 E90
      have hlabs := hlabs.keep0 E90
      have hlall := all9 hlall fun _ h => h.keep0 E90
      have hlab := hlab.keep0 E90
      have hB66 := hB66.keep0 E90
      have hT83 := hT83.kz E90
      have hb := below_step0 hb E90 hb.size
      have s90_0 := (hbs90 0 rfl).trans (sl_base hN50 rfl s50_0)
      have s90_1 := (hbs90 1 rfl).trans (sl_base hN50 rfl s50_1)
      have s90_2 := (hbs90 2 rfl).trans (sl_base hN50 rfl s50_2)
      have s90_6 := (hbs90 6 rfl).trans (sl_base hN50 rfl s50_6)
      have s90_7 := (hbs90 7 rfl).trans (sl_base hN50 rfl s50_7)
      have s90_8 := (hbs90 8 rfl).trans (sl_base hN50 rfl s50_8)
      have s90_9 := (hbs90 9 rfl).trans (sl_base hN50 rfl s50_9)
      have s90_10 := (hbs90 10 rfl).trans (sl_base hN50 rfl s50_10)
      have s90_11 := (hbs90 11 rfl).trans (sl_base hN50 rfl s50_11)
      have s90_13 := (hbs90 13 rfl).trans (sl_hit hN50 rfl)
      refine hK72 _ _ (seq_any fun K91 hK91 => ?_)
      refine reg_quiet (Φ := phiL [(fun uz _ => uz = (Value.agg #[(Value.int .i64 (W6.getD ((b.getD i 0).toNat % 6) V0).k), (Value.int .i64 (W6.getD ((b.getD i 0).toNat % 6) V0).n), (Value.string (bs (W6.getD ((b.getD i 0).toNat % 6) V0).s))])), (fun uz _ => uz = (Value.slice (some ⟨b12, 0, none⟩) 6 6)), (fun uz _ => uz = (Value.int .u8 (pick.toNat : Int))), (fun uz _ => uz = (Value.int .i64 (pick.toNat : Int))), (fun uz _ => uz = (Value.int .i64 ((pick.toNat % 6 : Nat) : Int))), (fun uz w' => ∃ (b92 : (Nat)) (o93 : (Nat)), uz = (ptr b92 o93) ∧ PtC w' 0 w28.heap.size b92 o93 [(Value.int .i64 (W6.getD (pick.toNat % 6) V0).k), (Value.int .i64 (W6.getD (pick.toNat % 6) V0).n), (Value.string (bs (W6.getD (pick.toNat % 6) V0).s))]), (fun uz _ => uz = (Value.agg #[(Value.int .i64 (W6.getD (pick.toNat % 6) V0).k), (Value.int .i64 (W6.getD (pick.toNat % 6) V0).n), (Value.string (bs (W6.getD (pick.toNat % 6) V0).s))])), (fun uz _ => uz = (Value.bool (decide ((W6.getD ((b.getD i 0).toNat % 6) V0).k = (W6.getD (pick.toNat % 6) V0).k ∧ (W6.getD ((b.getD i 0).toNat % 6) V0).n = (W6.getD (pick.toNat % 6) V0).n ∧ (W6.getD ((b.getD i 0).toNat % 6) V0).s = (W6.getD (pick.toNat % 6) V0).s))))]) mixed (by kernel_rfl) (by kernel_rfl) (by kernel_rfl) hN90 (StL.get (StL.eq (StL.eq (StL.eq (StL.eq (StL.eq (StL.cons (fun u w1 w2 E h => by obtain ⟨x0, x1, hv, f0⟩ := h; exact ⟨x0, x1, hv, f0.keep0 E⟩) (StL.eq (StL.eq (StL.nil _)))))))))) (ObL.get (s := 8) (ObL.cons ?_ (ObL.cons ?_ (ObL.cons ?_ (ObL.cons ?_ (ObL.cons ?_ (ObL.cons ?_ (ObL.cons ?_ (ObL.cons ?_ (ObL.nil))))))))) rfl) ?_
      ·
       intro aA wA hNA hRA hbsA hdpA
       have hRA : w90.grownBy wA none := hRA
       have z_wA := hRA.size
       have hc9 := hc9.keep0 hRA
       have hlabs := hlabs.keep0 hRA
       have hlab := hlab.keep0 hRA
       have hB66 := hB66.keep0 hRA
       have qA_13 := (hbsA 13 rfl).trans (sl_base hN90 rfl s90_13)
       clear hbsA hdpA
       refine op_loadA (cs := [(Value.int .i64 (W6.getD ((b.getD i 0).toNat % 6) V0).k), (Value.int .i64 (W6.getD ((b.getD i 0).toNat % 6) V0).n), (Value.string (bs (W6.getD ((b.getD i 0).toNat % 6) V0).s))]) agg74 rfl (ev_base hNA rfl qA_13) (fun j u hu => by rw [Nat.zero_add]; exact hB66.cell hu) ?_
       exact obN_end rfl rfl (grown_refl _ _)
      ·
       intro aA wA hNA hRA hbsA hdpA
       have qA_7 := (hbsA 7 rfl).trans (sl_base hN90 rfl s90_7)
       refine op_move (ev_base hNA rfl qA_7) ?_
       exact obN_end rfl rfl (grown_refl _ _)
      ·
       intro aA wA hNA hRA hbsA hdpA
       have qA_2 := (hbsA 2 rfl).trans (sl_base hN90 rfl s90_2)
       refine op_move (ev_base hNA rfl qA_2) ?_
       exact obN_end rfl rfl (grown_refl _ _)
      ·
       intro aA wA hNA hRA hbsA hdpA
       have hRA : w90.grownBy wA none := hRA
       have z_wA := hRA.size
       have hc9 := hc9.keep0 hRA
       have hlabs := hlabs.keep0 hRA
       have hlab := hlab.keep0 hRA
       have qA_86 : Sl aA 86 (Value.int .u8 (pick.toNat : Int)) := hdpA 2 _ 86 (by kernel_rfl) rfl rfl
       clear hbsA hdpA
       refine op_conv (r := (pick.toNat : Int)) (ev_base hNA rfl qA_86) us5 Try.underlying3 (wrap_i64 (by have := (pick).toNat_lt; omega)) ?_
       exact obN_end rfl rfl (grown_refl _ _)
      ·
       intro aA wA hNA hRA hbsA hdpA
       have qA_87 : Sl aA 87 (Value.int .i64 (pick.toNat : Int)) := hdpA 3 _ 87 (by kernel_rfl) rfl rfl
       refine op_rem (r := ((pick.toNat % 6 : Nat) : Int)) (ev_base hNA rfl qA_87) rfl (by decide) (by rw [Int.tmod_eq_emod_of_nonneg (by omega)]; omega) ?_
       exact obN_end rfl rfl (grown_refl _ _)
      ·
       intro aA wA hNA hRA hbsA hdpA
       have hRA : w90.grownBy wA none := hRA
       have z_wA := hRA.size
       have hc9 := hc9.keep0 hRA
       have hvals := hvals.keep0 hRA
       have hlabs := hlabs.keep0 hRA
       have hlab := hlab.keep0 hRA
       have qA_85 : Sl aA 85 (Value.slice (some ⟨b12, 0, none⟩) 6 6) := hdpA 1 _ 85 (by kernel_rfl) rfl rfl
       have qA_88 : Sl aA 88 (Value.int .i64 ((pick.toNat % 6 : Nat) : Int)) := hdpA 4 _ 88 (by kernel_rfl) rfl rfl
       clear hbsA hdpA
       refine op_index_rd slt75 (ev_base hNA rfl qA_85) hvals (ev_base hNA rfl qA_88) (by omega) (by omega) ?_
       intro b92 o93 h0b92 h1b92 hc94
       have hp95 : PtC wA 0 w28.heap.size b92 o93 [(Value.int .i64 (W6.getD (pick.toNat % 6) V0).k), (Value.int .i64 (W6.getD (pick.toNat % 6) V0).n), (Value.string (bs (W6.getD (pick.toNat % 6) V0).s))] := ⟨by omega, by omega, fun j u hu => hc94 j u (by have := (List.getElem?_eq_some_iff.1 hu).1; simpa using this) ((fun j u hu => el_val (l := W6) (i := (pick.toNat % 6)) (by omega) (by omega) hu) j u hu)⟩
       exact obN_end rfl ⟨b92, o93, rfl, hp95⟩ (grown_refl _ _)
      ·
       intro aA wA hNA hRA hbsA hdpA
       have hRA : w90.grownBy wA none := hRA
       have z_wA := hRA.size
       have hc9 := hc9.keep0 hRA
       have hlabs := hlabs.keep0 hRA
       have hlab := hlab.keep0 hRA
       obtain ⟨b92, o93, qA_89, hp95⟩ := hdpA 5 _ 89 (by kernel_rfl) rfl rfl
       have hp95 : PtC wA 0 w28.heap.size b92 o93 [(Value.int .i64 (W6.getD (pick.toNat % 6) V0).k), (Value.int .i64 (W6.getD (pick.toNat % 6) V0).n), (Value.string (bs (W6.getD (pick.toNat % 6) V0).s))] := hp95
       clear hbsA hdpA
       refine op_loadA (cs := [(Value.int .i64 (W6.getD (pick.toNat % 6) V0).k), (Value.int .i64 (W6.getD (pick.toNat % 6) V0).n), (Value.string (bs (W6.getD (pick.toNat % 6) V0).s))]) agg74 rfl (ev_base hNA rfl qA_89) (fun j u hu => hp95.2.2 j u hu) ?_
       exact obN_end rfl rfl (grown_refl _ _)
      ·
       intro aA wA hNA hRA hbsA hdpA
       have qA_84 : Sl aA 84 (Value.agg #[(Value.int .i64 (W6.getD ((b.getD i 0).toNat % 6) V0).k), (Value.int .i64 (W6.getD ((b.getD i 0).toNat % 6) V0).n), (Value.string (bs (W6.getD ((b.getD i 0).toNat % 6) V0).s))]) := hdpA 0 _ 84 (by kernel_rfl) rfl rfl
       have qA_90 : Sl aA 90 (Value.agg #[(Value.int .i64 (W6.getD (pick.toNat % 6) V0).k), (Value.int .i64 (W6.getD (pick.toNat % 6) V0).n), (Value.string (bs (W6.getD (pick.toNat % 6) V0).s))]) := hdpA 6 _ 90 (by kernel_rfl) rfl rfl
       refine op_aeql (xs := [(Value.int .i64 (W6.getD ((b.getD i 0).toNat % 6) V0).k), (Value.int .i64 (W6.getD ((b.getD i 0).toNat % 6) V0).n), (Value.string (bs (W6.getD ((b.getD i 0).toNat % 6) V0).s))]) (ys := [(Value.int .i64 (W6.getD (pick.toNat % 6) V0).k), (Value.int .i64 (W6.getD (pick.toNat % 6) V0).n), (Value.string (bs (W6.getD (pick.toNat % 6) V0).s))]) (b' := (decide ((W6.getD ((b.getD i 0).toNat % 6) V0).k = (W6.getD (pick.toNat % 6) V0).k ∧ (W6.getD ((b.getD i 0).toNat % 6) V0).n = (W6.getD (pick.toNat % 6) V0).n ∧ (W6.getD ((b.getD i 0).toNat % 6) V0).s = (W6.getD (pick.toNat % 6) V0).s))) (ev_base hNA rfl qA_84) (ev_base hNA rfl qA_90) (eq74 (W6.getD ((b.getD i 0).toNat % 6) V0).k (W6.getD (pick.toNat % 6) V0).k (W6.getD ((b.getD i 0).toNat % 6) V0).n (W6.getD (pick.toNat % 6) V0).n (W6.getD ((b.getD i 0).toNat % 6) V0).s (W6.getD (pick.toNat % 6) V0).s) rfl ?_
       exact obN_end rfl rfl (grown_refl _ _)
      ·
       intro a96 w96 hN96 hd96 hbs96 hph96 E96
       have hd96 := hd96.trans hd90
       have s96_0 := (hbs96 0 rfl).trans (sl_base hN90 rfl s90_0)
       have s96_1 := (hbs96 1 rfl).trans (sl_base hN90 rfl s90_1)
       have s96_2 := (hbs96 2 rfl).trans (sl_base hN90 rfl s90_2)
       have s96_6 := (hbs96 6 rfl).trans (sl_base hN90 rfl s90_6)
       have s96_7 := (hbs96 7 rfl).trans (sl_base hN90 rfl s90_7)
       have s96_8 := (hbs96 8 rfl).trans (sl_base hN90 rfl s90_8)
       have s96_9 := (hbs96 9 rfl).trans (sl_base hN90 rfl s90_9)
       have s96_10 := (hbs96 10 rfl).trans (sl_base hN90 rfl s90_10)
       have s96_11 := (hbs96 11 rfl).trans (sl_base hN90 rfl s90_11)
       have s96_91 : Sl a96 91 (Value.bool (decide ((W6.getD ((b.getD i 0).toNat % 6) V0).k = (W6.getD (pick.toNat % 6) V0).k ∧ (W6.getD ((b.getD i 0).toNat % 6) V0).n = (W6.getD (pick.toNat % 6) V0).n ∧ (W6.getD ((b.getD i 0).toNat % 6) V0).s = (W6.getD (pick.toNat % 6) V0).s))) := hph96 7 _ 91 rfl rfl
       clear hbs96 hph96
       have E96 : w90.grownBy w96 none := E96
       have z_w96 := E96.size
       have hb9 := hb9.keep0 E96
       have hc9 := hc9.keep0 E96
       have hvals := hvals.keep0 E96
       have hlabs := hlabs.keep0 E96
       have hlall := all9 hlall fun _ h => h.keep0 E96
       have hlab := hlab.keep0 E96
       have hT83 := hT83.kz E96
       have hb := below_step0 hb E96 hb.size
       refine hK91 _ _ (wp_cond_split (ev_base hN96 rfl s96_91) (fun c91 => ?_) (fun c91 => ?_))
       ·
        have c91 := of_decide_eq_true c91
        refine one_reg (op_move (ev_base hN96 rfl s96_10) (op_add (ev_hit hN96 rfl) rfl (add64 (by omega)) ?_))
        skip
        refine op_assign (ev_hit hN96 rfl) (reg_nil (hK48 _ _ (one_reg (op_move (ev_base hN96 rfl s96_11) (op_add (ev_hit hN96 rfl) rfl (add64 (by omega)) ?_)))))
        refine op_assign (ev_hit hN96 rfl) (reg_nil ?_)
        -- round 30F 34F 51T 91T
        exact loop_next _ hN96 hd96 ⟨(i + 1), (n + 1), (putL (keyX (W6.getD ((b.getD i 0).toNat % 6) V0) (LV.getD m default).2 i) ((i : Nat) : Int) M), F83, rfl, (sl_base hN96 rfl s96_0), (sl_base hN96 rfl s96_1), (sl_base hN96 rfl s96_2), (sl_base hN96 rfl s96_6), (sl_base hN96 rfl s96_7), (sl_base hN96 rfl s96_8), (sl_base hN96 rfl s96_9), (sl_hit hN96 rfl).trans (congrArg (Value.int .i64) (by omega)), (sl_hit hN96 rfl).trans (congrArg (Value.int .i64) (by omega)), (by omega), (by omega), (low_step (by omega) hlo hN83), (by have h9 := InX.put hIn hsM (XW_ok b) (LW_may c) (by omega); rw [← hLe, if_pos (hV9.1 c91)] at h9; exact h9), hb, (by omega), hb9, hc9, hvals, hlabs, hlall, hT83⟩ (by omega)
       ·
        have c91 := of_decide_eq_false c91
        refine wp_skip (hK48 _ _ (one_reg (op_move (ev_base hN96 rfl s96_11) (op_add (ev_hit hN96 rfl) rfl (add64 (by omega)) ?_))))
        refine op_assign (ev_hit hN96 rfl) (reg_nil ?_)
        -- round 30F 34F 51T 91F
        exact loop_next _ hN96 hd96 ⟨(i + 1), n, (putL (keyX (W6.getD ((b.getD i 0).toNat % 6) V0) (LV.getD m default).2 i) ((i : Nat) : Int) M), F83, rfl, (sl_base hN96 rfl s96_0), (sl_base hN96 rfl s96_1), (sl_base hN96 rfl s96_2), (sl_base hN96 rfl s96_6), (sl_base hN96 rfl s96_7), (sl_base hN96 rfl s96_8), (sl_base hN96 rfl s96_9), (sl_hit hN96 rfl).trans (congrArg (Value.int .i64) (by omega)), (sl_base hN96 rfl s96_10).trans (congrArg (Value.int .i64) (by omega)), (by omega), (by omega), (low_step (by omega) hlo hN83), (by have h9 := InX.put hIn hsM (XW_ok b) (LW_may c) (by omega); rw [← hLe, if_neg (fun q9 => c91 (hV9.2 q9))] at h9; exact h9), hb, (by omega), hb9, hc9, hvals, hlabs, hlall, hT83⟩ (by omega)
   ·
    refine reg_nil (hK47 _ _ (wp_cond_false (ev_hit hN45 rfl) (wp_exit (then_exit (then_exit (blk_hit ?_))))))
    refine hK43 _ _ (seq_any fun K97 hK97 => one_reg ?_)
    have hvs5 : (W6.getD (pick.toNat % 6) V0).s.length ≤ 1000000000 := Nat.le_trans (may_len (W6_may (m := pick.toNat % 6) (Nat.mod_lt _ (by decide))).1) (by decide)
    have hvn9 : -9223372036854775808 ≤ (W6.getD (pick.toNat % 6) V0).n ∧ (W6.getD (pick.toNat % 6) V0).n ≤ 9223372036854775807 := (W6_may (m := pick.toNat % 6) (Nat.mod_lt _ (by decide))).2.2.1
    refine op_move (ev_base hN45 rfl s45_7) (op_move (ev_base hN45 rfl s45_2) (op_conv (r := (pick.toNat : Int)) (ev_hit hN45 rfl) us5 Try.underlying3 (wrap_i64 (by have := (pick).toNat_lt; omega)) ?_))
    refine op_rem (r := ((pick.toNat % 6 : Nat) : Int)) (ev_hit hN45 rfl) rfl (by decide) (by rw [Int.tmod_eq_emod_of_nonneg (by omega)]; omega) ?_
    refine op_index_rd slt75 (ev_hit hN45 rfl) hvals (ev_hit hN45 rfl) (by omega) (by omega) ?_
    intro b98 o99 h0b98 h1b98 hc100
    refine op_loadA (cs := [(Value.int .i64 (W6.getD (pick.toNat % 6) V0).k), (Value.int .i64 (W6.getD (pick.toNat % 6) V0).n), (Value.string (bs (W6.getD (pick.toNat % 6) V0).s))]) agg74 rfl (ev_hit hN45 rfl) (fun j u hu => hc100 j u (by have := (List.getElem?_eq_some_iff.1 hu).1; simpa using this) ((fun j u hu => el_val (l := W6) (i := (pick.toNat % 6)) (by omega) (by omega) hu) j u hu)) ?_
    refine op_fn (vs := [(Value.agg #[(Value.int .i64 (W6.getD (pick.toNat % 6) V0).k), (Value.int .i64 (W6.getD (pick.toNat % 6) V0).n), (Value.string (bs (W6.getD (pick.toNat % 6) V0).s))])]) ok37 ⟨(ev_hit hN45 rfl), trivial⟩ (From_ret (W6.getD (pick.toNat % 6) V0) _ (by first | assumption | omega | (simp only [List.length_append, List.length_cons, List.length_nil, List.length_drop, List.length_take]; omega) | (dsimp only; omega) | decide | (simp [keyV, be8_len]; done)) (by first | assumption | omega | (simp only [List.length_append, List.length_cons, List.length_nil, List.length_drop, List.length_take]; omega) | (dsimp only; omega) | decide | (simp [keyV, be8_len]; done))) ?_
    rintro v101 w102 ⟨E103, hO101⟩
    have E103 := grown_of_below E103
    have z_w102 := E103.size
    have hb9 := hb9.keep0 E103
    have hc9 := hc9.keep0 E103
    have hvals := hvals.keep0 E103
    have hlabs := hlabs.keep0 E103
    have hlall := all9 hlall fun _ h => h.keep0 E103
    have hTM := hTM.kz E103
    have hb := below_step0 hb E103 hb.size
    have hO101 := hO101.mono (base' := w45.heap.size) (by omega)
    refine op_assign (ev_hit hN45 rfl) ?_
    refine reg_nil (hK97 _ _ (seq_any fun K105 hK105 => one_reg (op_move (ev_base hN45 rfl s45_9) (op_move (ev_hit hN45 rfl) (op_fn (vs := [(ptr p33 0), v101, (Value.int .i64 100)]) ok24 ⟨(ev_hit hN45 rfl), ⟨(ev_hit hN45 rfl), ⟨rfl, trivial⟩⟩⟩ (scanLsI (m := 100) (x := (keyV (W6.getD (pick.toNat % 6) V0))) hTM (fun q hq => by obtain ⟨j9, _, rfl⟩ := hIn.mem q hq; exact entX_short) (hO101.rdw.mono (Nat.zero_le _) (by omega)) (by omega) (Nat.le_trans hIn.len (by omega))) ?_)))))
    rintro v106 w107 ⟨E108, D106, hO106, hks106, hE106, hpw106⟩
    have E108 := grown_of_below E108
    have z_w107 := E108.size
    have hb9 := hb9.keep0 E108
    have hc9 := hc9.keep0 E108
    have hvals := hvals.keep0 E108
    have hlabs := hlabs.keep0 E108
    have hlall := all9 hlall fun _ h => h.keep0 E108
    have hTM := hTM.kz E108
    have hO101 := hO101.keep0 E108
    have hb := below_step0 hb E108 hb.size
    have hO106 := hO106.mono (base' := w.heap.size) (by omega)
    have hks106 : ∀ x9 ∈ (D106.map pk), Own w107 w.heap.size 5 1 x9.1 x9.2.length (x9.2.map u8v) := fun x9 h9 => (hks106 x9 h9).mono (by omega)
    refine op_assign (ev_hit hN45 rfl) (reg_nil (hK105 _ _ (seq_any fun K110 hK110 => seq_any fun K111 hK111 => one_reg ?_)))
    have hMl := hIn.len
    have hsM := hTM.sorted
    have hVok := W6_may (m := pick.toNat % 6) (Nat.mod_lt _ (by decide))
    have e0 : D106.map Prod.snd = geL (keyV (W6.getD (pick.toNat % 6) V0)) M := by have q := hE106; rw [List.take_of_length_le (Nat.le_trans geL_le (show M.length ≤ _ from Nat.le_trans hMl (by simp; omega)))] at q; exact q
    have hlen9 : D106.length = (geL (keyV (W6.getD (pick.toNat % 6) V0)) M).length := by have := congrArg List.length e0; simpa using this
    have hle9 := hIn.le (XW_ok b) hVok
    have hge9 : (geL (keyV (W6.getD (pick.toNat % 6) V0)) M).length ≤ M.length := geL_le
    refine op_assign rfl (reg_nil (hK111 _ _ (wp_block ?_)))
    refine loop_m (fun mz_ az_ w' => ∃ (k2 : Nat), mz_ = D106.length - k2 ∧ (az_.tmps.getD 2 undef = (Value.int .u8 (pick.toNat : Int))) ∧ (az_.tmps.getD 7 undef = (Value.slice (some ⟨b12, 0, none⟩) 6 6)) ∧ (az_.tmps.getD 10 undef = (Value.int .i64 ((n : Nat) : Int))) ∧ (az_.tmps.getD 15 undef = v106) ∧ (az_.tmps.getD 16 undef = (Value.int .i64 ((k2 : Nat) : Int))) ∧ (k2 ≤ D106.length) ∧ (Below w.heap.size w w') ∧ (w107.heap.size ≤ w'.heap.size) ∧ (RdC w' 0 w.heap.size 1 vb b.length (b.map u8v)) ∧ (RdC w' 0 w.heap.size 1 vc c.length (c.map u8v)) ∧ (RdC w' 0 w28.heap.size 3 (Value.slice (some ⟨b12, 0, none⟩) 6 6) W6.length (W6.flatMap cellsV)) ∧ (RdC w' 0 w28.heap.size 1 (Value.slice (some ⟨b29, 0, none⟩) 4 4) LV.length (LV.flatMap (fun x9 => [x9.1]))) ∧ (∀ x9 ∈ LV, RdC w' 0 w28.heap.size 1 x9.1 x9.2.length (x9.2.map u16v)) ∧ (TopL kI 71 w.heap.size w' p33 M FT) ∧ (Own w' w45.heap.size 5 1 v101 (keyV (W6.getD (pick.toNat % 6) V0)).length ((keyV (W6.getD (pick.toNat % 6) V0)).map u8v)) ∧ (Own w' w.heap.size 51 2 v106 D106.length (D106.flatMap cI)) ∧ (∀ x9 ∈ (D106.map pk), Own w' w.heap.size 5 1 x9.1 x9.2.length (x9.2.map u8v))) _ hN45 hd45 ⟨0, rfl, (sl_base hN45 rfl s45_2), (sl_base hN45 rfl s45_7), (sl_base hN45 rfl s45_10), (sl_hit hN45 rfl), (sl_hit hN45 rfl), (Nat.zero_le _), hb, (Nat.le_refl _), hb9, hc9, hvals, hlabs, hlall, hTM, hO101, hO106, hks106⟩ ?_
    rintro _ a112 w112 hN112 hd112 ⟨k2, rfl, s112_2, s112_7, s112_10, s112_15, s112_16, hk2, hb, zl_w112, hb9, hc9, hvals, hlabs, hlall, hTM, hO101, hO106, hks106⟩
    have z_w112 := hb.size
    refine seq_any fun K113 hK113 => seq_any fun K114 hK114 => one_reg (op_move (ev_base hN112 rfl s112_16) (op_move (ev_base hN112 rfl s112_15) (op_len_rd Try.underlying48 (ev_hit hN112 rfl) hO106.rdw ?_)))
    refine op_lss (ev_hit hN112 rfl) (ev_hit hN112 rfl) (fun c107 => ?_) (fun c107 => ?_)
    ·
     refine reg_nil (hK114 _ _ (wp_cond_true (ev_hit hN112 rfl) (wp_skip (hK113 _ _ (seq_any fun K115 hK115 => wp_block ?_)))))
     refine seq_any fun K116 hK116 => one_reg ?_
     obtain ⟨ja, hja, hat, hiff⟩ := hIn.at hsM (XW_ok b) hVok (m := k2) (by omega)
     have hDk : (D106.getD k2 default).2 = entX (XW b) (LW c) ja := (d0_at e0 (j := k2) (by omega)).trans hat
     have hTX : takeX (D106.getD k2 default).2.1 = (XW b ja, LW c ja, ja, 0) := by rw [hDk]; exact takeX_put0 (XW_ok b ja).1 (XW_ok b ja).2 (LW_may c ja) (by omega)
     have hDv : (D106.getD k2 default).2.2 = (ja : Int) := by rw [hDk]; rfl
     have hkl9 : (D106.getD k2 default).2.1.length ≤ 1000000000000 := by rw [hDk]; exact Nat.le_trans entX_short (by decide)
     refine op_move (ev_base hN112 rfl s112_15) (op_move (ev_base hN112 rfl s112_16) (op_index_rd slt48 (ev_hit hN112 rfl) hO106.rdw (ev_hit hN112 rfl) (by omega) (by omega) ?_))
     intro b117 o118 h0b117 h1b117 hc119
     refine op_field fld51_0 (ev_hit hN112 rfl) (op_load1 (v := (D106.getD k2 default).1) one27 (ev_hit hN112 rfl) (hc119 0 ((D106.getD k2 default).1) (by decide) ((el_pI (i := k2) (by omega) (by first | omega | (simp only [List.length_drop, List.length_take]; omega))) 0 ((D106.getD k2 default).1) rfl)) ?_)
     have hq120 : RdC w112 0 w112.heap.size 1 (D106.getD k2 default).1 (D106.getD k2 default).2.1.length ((D106.getD k2 default).2.1.map u8v) := by have hh : RdC w112 0 w112.heap.size 1 _ _ _ := ((show Own _ _ _ _ (D106.getD k2 default).1 (D106.getD k2 default).2.1.length ((D106.getD k2 default).2.1.map u8v) from hks106 (pk (D106.getD k2 default)) (List.mem_map.2 ⟨(D106.getD k2 default), (getD_mem (by first | omega | (simp only [List.length_drop, List.length_take]; omega))), rfl⟩)).rdw.mono (L' := 0) (B' := w112.heap.size) (Nat.zero_le _) (by omega)); first | simpa using hh | simpa [Nat.add_comm, Nat.add_left_comm, Nat.add_assoc] using hh | exact hh.cast (by first | rfl | (simp; try omega)) (by first | rfl | (simp; done) | simp [u8v])
     refine op_fn (vs := [(D106.getD k2 default).1]) ok38 ⟨(ev_hit hN112 rfl), trivial⟩ (IXTake_ret (D106.getD k2 default).2.1 (D106.getD k2 default).1 _ (by first | assumption | omega | (simp only [List.length_append, List.length_cons, List.length_nil, List.length_drop, List.length_take]; omega) | (dsimp only; omega) | decide | (simp [keyV, be8_len]; done)) hq120) ?_
     rintro _ w122 ⟨E123, u121, rfl, hO121⟩
     have E123 := grown_of_below E123
     have z_w122 := E123.size
     have hb9 := hb9.keep0 E123
     have hc9 := hc9.keep0 E123
     have hvals := hvals.keep0 E123
     have hlabs := hlabs.keep0 E123
     have hlall := all9 hlall fun _ h => h.keep0 E123
     have hTM := hTM.kz E123
     have hO101 := hO101.keep0 E123
     have hO106 := hO106.keep0 E123
     have hks106 := all9 hks106 fun _ h => h.keep0 E123
     have hb := below_step0 hb E123 hb.size
     have hO121 := hO121.mono (base' := w112.heap.size) (by omega)
     refine op_move (ev_hit hN112 rfl) (op_extract (ev_hit hN112 rfl) rfl ?_)
     refine op_extract (ev_hit hN112 rfl) rfl ?_
     refine op_extract (ev_hit hN112 rfl) rfl ?_
     refine op_extract (ev_hit hN112 rfl) rfl ?_
     refine op_alloc (cs := [(Value.int .i64 0), (Value.int .i64 0), (Value.string (bs []))]) zero74 rfl ?_
     intro w125 b126 lo_b126 hi_b126 hB128 E127
     have dj129 : ¬ FT b126 := fun hf => by have := (hTM.lt _ hf).2; omega
     have z_w125 := E127.size
     have hb9 := hb9.keep0 E127
     have hc9 := hc9.keep0 E127
     have hvals := hvals.keep0 E127
     have hlabs := hlabs.keep0 E127
     have hlall := all9 hlall fun _ h => h.keep0 E127
     have hTM := hTM.kz E127
     have hO101 := hO101.keep0 E127
     have hO106 := hO106.keep0 E127
     have hks106 := all9 hks106 fun _ h => h.keep0 E127
     have hO121 := hO121.keep0 E127
     have hb := below_step0 hb E127 hb.size
     have hB128_old := hB128
     refine op_store (vs := [(Value.int .i64 (takeX (D106.getD k2 default).2.1).1.k), (Value.int .i64 (takeX (D106.getD k2 default).2.1).1.n), (Value.string (bs (takeX (D106.getD k2 default).2.1).1.s))]) (cs' := [(Value.int .i64 (takeX (D106.getD k2 default).2.1).1.k), (Value.int .i64 (takeX (D106.getD k2 default).2.1).1.n), (Value.string (bs (takeX (D106.getD k2 default).2.1).1.s))]) size74 (ev_hit hN112 rfl) (ev_hit hN112 rfl) rfl rfl rfl hB128 (Nat.le_of_ble_eq_true rfl) rfl ?_
     intro w132 hB128 E133
     have z_w132 := E133.size
     have hb9 := hb9.keep E133 (fun k hk => .inr (by simp at hk; omega))
     have hc9 := hc9.keep E133 (fun k hk => .inr (by simp at hk; omega))
     have hvals := hvals.keep E133 (fun k hk => .inr (by simp at hk; omega))
     have hlabs := hlabs.keep E133 (fun k hk => .inr (by simp at hk; omega))
     have hlall := all9 hlall fun _ h => h.keep E133 (fun k hk => .inr (by simp at hk; omega))
     have hTM := hTM.keepG (Gr.of E133) (Dj.one dj129)
     have hO101 := hO101.keepX hB128_old E133 (by decide)
     have hO106 := hO106.keepX hB128_old E133 (by decide)
     have hks106 := all9 hks106 fun _ h => h.keepX hB128_old E133 (by decide)
     have hO121 := hO121.keepX hB128_old E133 (by decide)
     have hb := below_step1 hb E133 hb.size (by omega)
     refine op_assign (ev_hit hN112 rfl) (op_assign (ev_hit hN112 rfl) (op_assign (ev_hit hN112 rfl) (reg_nil (hK116 _ _ (seq_any fun K134 hK134 => seq_any fun K135 hK135 => ?_)))))
     by_cases g122 : (takeX (D106.getD k2 default).2.1).2.2.2 ≠ 0
     ·
      exact absurd (congrArg (fun q => q.2.2.2) hTX) g122
     ·
      by_cases g131 : (((takeX (D106.getD k2 default).2.1).2.2.1 : Nat) : Int) ≠ ((ja : Nat) : Int)
      ·
       exact absurd (congrArg (fun q => ((q.2.2.1 : Nat) : Int)) hTX) g131
      ·
       refine reg_quiet (Φ := phiL [(fun uz _ => uz = (Value.int .i64 (takeX (D106.getD k2 default).2.1).2.2.2)), (fun uz _ => uz = (Value.bool false)), (fun uz _ => uz = (Value.bool false)), (fun uz _ => uz = (Value.int .u64 (((takeX (D106.getD k2 default).2.1).2.2.1 : Nat) : Int))), (fun uz _ => uz = v106), (fun uz _ => uz = (Value.int .i64 ((k2 : Nat) : Int))), (fun uz w' => ∃ (b136 : (Nat)) (o137 : (Nat)), uz = (ptr b136 o137) ∧ PtC w' b136 (b136 + 1) b136 o137 [(D106.getD k2 default).1, (Value.int .i64 (D106.getD k2 default).2.2)]), (fun uz w' => ∃ (y136 : (Nat)) (y137 : (Nat)), uz = (ptr y136 (y137 + 1)) ∧ PtC w' y136 (y136 + 1) y136 y137 [(D106.getD k2 default).1, (Value.int .i64 (D106.getD k2 default).2.2)]), (fun uz _ => uz = (Value.int .i64 (D106.getD k2 default).2.2)), (fun uz _ => uz = (Value.int .u64 ((ja : Nat) : Int))), (fun uz _ => uz = (Value.bool false)), (fun uz _ => uz = (Value.bool false)), (fun uz _ => uz = (Value.bool false)), (fun uz _ => uz = (Value.agg #[(Value.int .i64 (takeX (D106.getD k2 default).2.1).1.k), (Value.int .i64 (takeX (D106.getD k2 default).2.1).1.n), (Value.string (bs (takeX (D106.getD k2 default).2.1).1.s))])), (fun uz _ => uz = (Value.slice (some ⟨b12, 0, none⟩) 6 6)), (fun uz _ => uz = (Value.int .u8 (pick.toNat : Int))), (fun uz _ => uz = (Value.int .i64 (pick.toNat : Int))), (fun uz _ => uz = (Value.int .i64 ((pick.toNat % 6 : Nat) : Int))), (fun uz w' => ∃ (b140 : (Nat)) (o141 : (Nat)), uz = (ptr b140 o141) ∧ PtC w' 0 w28.heap.size b140 o141 [(Value.int .i64 (W6.getD (pick.toNat % 6) V0).k), (Value.int .i64 (W6.getD (pick.toNat % 6) V0).n), (Value.string (bs (W6.getD (pick.toNat % 6) V0).s))]), (fun uz _ => uz = (Value.agg #[(Value.int .i64 (W6.getD (pick.toNat % 6) V0).k), (Value.int .i64 (W6.getD (pick.toNat % 6) V0).n), (Value.string (bs (W6.getD (pick.toNat % 6) V0).s))])), (fun uz _ => uz = (Value.bool (decide ((takeX (D106.getD k2 default).2.1).1.k = (W6.getD (pick.toNat % 6) V0).k ∧ (takeX (D106.getD k2 default).2.1).1.n = (W6.getD (pick.toNat % 6) V0).n ∧ (takeX (D106.getD k2 default).2.1).1.s = (W6.getD (pick.toNat % 6) V0).s)))), (fun uz _ => uz = (Value.int .i64 ((k2 : Nat) : Int))), (fun uz _ => uz = (Value.int .i64 ((n : Nat) : Int))), (fun uz _ => uz = (Value.bool (decide (((k2 : Nat) : Int) < ((n : Nat) : Int))))), (fun uz _ => uz = (Value.bool ((decide ((takeX (D106.getD k2 default).2.1).1.k = (W6.getD (pick.toNat % 6) V0).k ∧ (takeX (D106.getD k2 default).2.1).1.n = (W6.getD (pick.toNat % 6) V0).n ∧ (takeX (D106.getD k2 default).2.1).1.s = (W6.getD (pick.toNat % 6) V0).s)) != (decide (((k2 : Nat) : Int) < ((n : Nat) : Int)))))), (fun uz _ => uz = (Value.bool ((decide ((takeX (D106.getD k2 default).2.1).1.k = (W6.getD (pick.toNat % 6) V0).k ∧ (takeX (D106.getD k2 default).2.1).1.n = (W6.getD (pick.toNat % 6) V0).n ∧ (takeX (D106.getD k2 default).2.1).1.s = (W6.getD (pick.toNat % 6) V0).s)) != (decide (((k2 : Nat) : Int) < ((n : Nat) : Int))))))]) mixed (by kernel_rfl) (by kernel_rfl) (by kernel_rfl) hN112 (StL.get (StL.eq (StL.eq (StL.eq (StL.eq (StL.eq (StL.eq (StL.cons (fun u w1 w2 E h => by obtain ⟨x0, x1, hv, f0⟩ := h; exact ⟨x0, x1, hv, f0.keep0 E⟩) (StL.cons (fun u w1 w2 E h => by obtain ⟨x0, x1, hv, f0⟩ := h; exact ⟨x0, x1, hv, f0.keep0 E⟩) (StL.eq (StL.eq (StL.eq (StL.eq (StL.eq (StL.eq (StL.eq (StL.eq (StL.eq (StL.eq (StL.cons (fun u w1 w2 E h => by obtain ⟨x0, x1, hv, f0⟩ := h; exact ⟨x0, x1, hv, f0.keep0 E⟩) (StL.eq (StL.eq (StL.eq (StL.eq (StL.eq (StL.eq (StL.eq (StL.nil _)))))))))))))))))))))))))))) (ObL.get (s := 26) (ObL.cons ?_ (ObL.cons ?_ (ObL.cons ?_ (ObL.cons ?_ (ObL.cons ?_ (ObL.cons ?_ (ObL.cons ?_ (ObL.cons ?_ (ObL.cons ?_ (ObL.cons ?_ (ObL.cons ?_ (ObL.cons ?_ (ObL.cons ?_ (ObL.cons ?_ (ObL.cons ?_ (ObL.cons ?_ (ObL.cons ?_ (ObL.cons ?_ (ObL.cons ?_ (ObL.cons ?_ (ObL.cons ?_ (ObL.cons ?_ (ObL.cons ?_ (ObL.cons ?_ (ObL.cons ?_ (ObL.cons ?_ (ObL.nil))))))))))))))))))))))))))) rfl) ?_
       ·
        intro aA wA hNA hRA hbsA hdpA
        have qA_20 := (hbsA 20 rfl).trans (sl_hit hN112 rfl)
        refine op_move (ev_base hNA rfl qA_20) ?_
        exact obN_end rfl rfl (grown_refl _ _)
       ·
        intro aA wA hNA hRA hbsA hdpA
        have qA_121 : Sl aA 121 (Value.int .i64 (takeX (D106.getD k2 default).2.1).2.2.2) := hdpA 0 _ 121 (by kernel_rfl) rfl rfl
        refine op_cmp (b := false) (ev_base hNA rfl qA_121) rfl (b_neq (decide_eq_false g122)) ?_
        exact obN_end rfl rfl (grown_refl _ _)
       ·
        intro aA wA hNA hRA hbsA hdpA
        have qA_122 : Sl aA 122 (Value.bool false) := hdpA 1 _ 122 (by kernel_rfl) rfl rfl
        refine op_move (ev_base hNA rfl qA_122) ?_
        exact obN_end rfl rfl (grown_refl _ _)
       ·
        intro aA wA hNA hRA hbsA hdpA
        have qA_19 := (hbsA 19 rfl).trans (sl_hit hN112 rfl)
        have qA_123 : Sl aA 123 (Value.bool false) := hdpA 2 _ 123 (by kernel_rfl) rfl rfl
        refine g_true (j := 2) (dj := 123) (b := false) rfl rfl rfl (ev_base hNA rfl qA_123) (op_move (ev_base hNA rfl qA_19) ?_)
        exact obN_end rfl rfl (grown_refl _ _)
       ·
        intro aA wA hNA hRA hbsA hdpA
        have qA_15 := (hbsA 15 rfl).trans (sl_base hN112 rfl s112_15)
        have qA_123 : Sl aA 123 (Value.bool false) := hdpA 2 _ 123 (by kernel_rfl) rfl rfl
        refine g_true (j := 2) (dj := 123) (b := false) rfl rfl rfl (ev_base hNA rfl qA_123) (op_move (ev_base hNA rfl qA_15) ?_)
        exact obN_end rfl rfl (grown_refl _ _)
       ·
        intro aA wA hNA hRA hbsA hdpA
        have qA_16 := (hbsA 16 rfl).trans (sl_base hN112 rfl s112_16)
        have qA_123 : Sl aA 123 (Value.bool false) := hdpA 2 _ 123 (by kernel_rfl) rfl rfl
        refine g_true (j := 2) (dj := 123) (b := false) rfl rfl rfl (ev_base hNA rfl qA_123) (op_move (ev_base hNA rfl qA_16) ?_)
        exact obN_end rfl rfl (grown_refl _ _)
       ·
        intro aA wA hNA hRA hbsA hdpA
        have hRA : w132.grownBy wA none := hRA
        have z_wA := hRA.size
        have hc9 := hc9.keep0 hRA
        have hlabs := hlabs.keep0 hRA
        have hO106 := hO106.keep0 hRA
        have qA_125 : Sl aA 125 v106 := hdpA 4 _ 125 (by kernel_rfl) rfl rfl
        have qA_126 : Sl aA 126 (Value.int .i64 ((k2 : Nat) : Int)) := hdpA 5 _ 126 (by kernel_rfl) rfl rfl
        have qA_123 : Sl aA 123 (Value.bool false) := hdpA 2 _ 123 (by kernel_rfl) rfl rfl
        clear hbsA hdpA
        refine g_true (j := 2) (dj := 123) (b := false) rfl rfl rfl (ev_base hNA rfl qA_123) (op_index_rd slt48 (ev_base hNA rfl qA_125) hO106.rdw (ev_base hNA rfl qA_126) (by omega) (by omega) ?_)
        intro b139 o140 h0b139 h1b139 hc141
        have hp142 : PtC wA b139 (b139 + 1) b139 o140 [(D106.getD k2 default).1, (Value.int .i64 (D106.getD k2 default).2.2)] := ⟨by omega, by omega, fun j u hu => hc141 j u (by have := (List.getElem?_eq_some_iff.1 hu).1; simpa using this) ((el_pI (i := k2) (by omega) (by first | omega | (simp only [List.length_drop, List.length_take]; omega))) j u hu)⟩
        exact obN_end rfl ⟨b139, o140, rfl, hp142⟩ (grown_refl _ _)
       ·
        intro aA wA hNA hRA hbsA hdpA
        obtain ⟨b136, o137, qA_127, hp139⟩ := hdpA 6 _ 127 (by kernel_rfl) rfl rfl
        have hp139 : PtC wA b136 (b136 + 1) b136 o137 [(D106.getD k2 default).1, (Value.int .i64 (D106.getD k2 default).2.2)] := hp139
        have qA_123 : Sl aA 123 (Value.bool false) := hdpA 2 _ 123 (by kernel_rfl) rfl rfl
        refine g_true (j := 2) (dj := 123) (b := false) rfl rfl rfl (ev_base hNA rfl qA_123) (op_field fld51_1 (ev_base hNA rfl qA_127) ?_)
        exact obN_end rfl ⟨b136, o137, rfl, hp139⟩ (grown_refl _ _)
       ·
        intro aA wA hNA hRA hbsA hdpA
        have hRA : w132.grownBy wA none := hRA
        have z_wA := hRA.size
        have hc9 := hc9.keep0 hRA
        have hlabs := hlabs.keep0 hRA
        obtain ⟨y136, y137, qA_128, hy138⟩ := hdpA 7 _ 128 (by kernel_rfl) rfl rfl
        have hy138 : PtC wA y136 (y136 + 1) y136 y137 [(D106.getD k2 default).1, (Value.int .i64 (D106.getD k2 default).2.2)] := hy138
        have qA_123 : Sl aA 123 (Value.bool false) := hdpA 2 _ 123 (by kernel_rfl) rfl rfl
        clear hbsA hdpA
        refine g_true (j := 2) (dj := 123) (b := false) rfl rfl rfl (ev_base hNA rfl qA_123) (op_load1 (v := (Value.int .i64 (D106.getD k2 default).2.2)) one3 (ev_base hNA rfl qA_128) (hy138.2.2 1 _ rfl) ?_)
        exact obN_end rfl rfl (grown_refl _ _)
       ·
        intro aA wA hNA hRA hbsA hdpA
        have hRA : w132.grownBy wA none := hRA
        have z_wA := hRA.size
        have hc9 := hc9.keep0 hRA
        have hlabs := hlabs.keep0 hRA
        have qA_129 : Sl aA 129 (Value.int .i64 (D106.getD k2 default).2.2) := hdpA 8 _ 129 (by kernel_rfl) rfl rfl
        have qA_123 : Sl aA 123 (Value.bool false) := hdpA 2 _ 123 (by kernel_rfl) rfl rfl
        clear hbsA hdpA
        refine g_true (j := 2) (dj := 123) (b := false) rfl rfl rfl (ev_base hNA rfl qA_123) (op_conv (r := ((ja : Nat) : Int)) (ev_base hNA rfl qA_129) us3 Try.underlying79 (by rw [hDv]; exact wrap_u64 (by omega)) ?_)
        exact obN_end rfl rfl (grown_refl _ _)
       ·
        intro aA wA hNA hRA hbsA hdpA
        have qA_124 : Sl aA 124 (Value.int .u64 (((takeX (D106.getD k2 default).2.1).2.2.1 : Nat) : Int)) := hdpA 3 _ 124 (by kernel_rfl) rfl rfl
        have qA_130 : Sl aA 130 (Value.int .u64 ((ja : Nat) : Int)) := hdpA 9 _ 130 (by kernel_rfl) rfl rfl
        have qA_123 : Sl aA 123 (Value.bool false) := hdpA 2 _ 123 (by kernel_rfl) rfl rfl
        refine g_true (j := 2) (dj := 123) (b := false) rfl rfl rfl (ev_base hNA rfl qA_123) (op_cmp (b := false) (ev_base hNA rfl qA_124) (ev_base hNA rfl qA_130) (b_neq (decide_eq_false g131)) ?_)
        exact obN_end rfl rfl (grown_refl _ _)
       ·
        intro aA wA hNA hRA hbsA hdpA
        have qA_123 : Sl aA 123 (Value.bool false) := hdpA 2 _ 123 (by kernel_rfl) rfl rfl
        have qA_131 : Sl aA 131 (Value.bool false) := hdpA 10 _ 131 (by kernel_rfl) rfl rfl
        refine op_pick_f (ev_base hNA rfl qA_123) (ev_base hNA rfl qA_131) ?_
        exact obN_end rfl rfl (grown_refl _ _)
       ·
        intro aA wA hNA hRA hbsA hdpA
        have qA_132 : Sl aA 132 (Value.bool false) := hdpA 11 _ 132 (by kernel_rfl) rfl rfl
        refine op_move (ev_base hNA rfl qA_132) ?_
        exact obN_end rfl rfl (grown_refl _ _)
       ·
        intro aA wA hNA hRA hbsA hdpA
        have hRA : w132.grownBy wA none := hRA
        have z_wA := hRA.size
        have hc9 := hc9.keep0 hRA
        have hlabs := hlabs.keep0 hRA
        have hB128 := hB128.keep0 hRA
        have qA_17 := (hbsA 17 rfl).trans (sl_hit hN112 rfl)
        have qA_133 : Sl aA 133 (Value.bool false) := hdpA 12 _ 133 (by kernel_rfl) rfl rfl
        clear hbsA hdpA
        refine g_true (j := 12) (dj := 133) (b := false) rfl rfl rfl (ev_base hNA rfl qA_133) (op_loadA (cs := [(Value.int .i64 (takeX (D106.getD k2 default).2.1).1.k), (Value.int .i64 (takeX (D106.getD k2 default).2.1).1.n), (Value.string (bs (takeX (D106.getD k2 default).2.1).1.s))]) agg74 rfl (ev_base hNA rfl qA_17) (fun j u hu => by rw [Nat.zero_add]; exact hB128.cell hu) ?_)
        exact obN_end rfl rfl (grown_refl _ _)
       ·
        intro aA wA hNA hRA hbsA hdpA
        have qA_7 := (hbsA 7 rfl).trans (sl_base hN112 rfl s112_7)
        have qA_133 : Sl aA 133 (Value.bool false) := hdpA 12 _ 133 (by kernel_rfl) rfl rfl
        refine g_true (j := 12) (dj := 133) (b := false) rfl rfl rfl (ev_base hNA rfl qA_133) (op_move (ev_base hNA rfl qA_7) ?_)
        exact obN_end rfl rfl (grown_refl _ _)
       ·
        intro aA wA hNA hRA hbsA hdpA
        have qA_2 := (hbsA 2 rfl).trans (sl_base hN112 rfl s112_2)
        have qA_133 : Sl aA 133 (Value.bool false) := hdpA 12 _ 133 (by kernel_rfl) rfl rfl
        refine g_true (j := 12) (dj := 133) (b := false) rfl rfl rfl (ev_base hNA rfl qA_133) (op_move (ev_base hNA rfl qA_2) ?_)
        exact obN_end rfl rfl (grown_refl _ _)
       ·
        intro aA wA hNA hRA hbsA hdpA
        have hRA : w132.grownBy wA none := hRA
        have z_wA := hRA.size
        have hc9 := hc9.keep0 hRA
        have hlabs := hlabs.keep0 hRA
        have qA_136 : Sl aA 136 (Value.int .u8 (pick.toNat : Int)) := hdpA 15 _ 136 (by kernel_rfl) rfl rfl
        have qA_133 : Sl aA 133 (Value.bool false) := hdpA 12 _ 133 (by kernel_rfl) rfl rfl
        clear hbsA hdpA
        refine g_true (j := 12) (dj := 133) (b := false) rfl rfl rfl (ev_base hNA rfl qA_133) (op_conv (r := (pick.toNat : Int)) (ev_base hNA rfl qA_136) us5 Try.underlying3 (wrap_i64 (by have := (pick).toNat_lt; omega)) ?_)
        exact obN_end rfl rfl (grown_refl _ _)
       ·
        intro aA wA hNA hRA hbsA hdpA
        have qA_137 : Sl aA 137 (Value.int .i64 (pick.toNat : Int)) := hdpA 16 _ 137 (by kernel_rfl) rfl rfl
        have qA_133 : Sl aA 133 (Value.bool false) := hdpA 12 _ 133 (by kernel_rfl) rfl rfl
        refine g_true (j := 12) (dj := 133) (b := false) rfl rfl rfl (ev_base hNA rfl qA_133) (op_rem (r := ((pick.toNat % 6 : Nat) : Int)) (ev_base hNA rfl qA_137) rfl (by decide) (by rw [Int.tmod_eq_emod_of_nonneg (by omega)]; omega) ?_)
        exact obN_end rfl rfl (grown_refl _ _)
       ·
        intro aA wA hNA hRA hbsA hdpA
        have hRA : w132.grownBy wA none := hRA
        have z_wA := hRA.size
        have hc9 := hc9.keep0 hRA
        have hvals := hvals.keep0 hRA
        have hlabs := hlabs.keep0 hRA
        have qA_135 : Sl aA 135 (Value.slice (some ⟨b12, 0, none⟩) 6 6) := hdpA 14 _ 135 (by kernel_rfl) rfl rfl
        have qA_138 : Sl aA 138 (Value.int .i64 ((pick.toNat % 6 : Nat) : Int)) := hdpA 17 _ 138 (by kernel_rfl) rfl rfl
        have qA_133 : Sl aA 133 (Value.bool false) := hdpA 12 _ 133 (by kernel_rfl) rfl rfl
        clear hbsA hdpA
        refine g_true (j := 12) (dj := 133) (b := false) rfl rfl rfl (ev_base hNA rfl qA_133) (op_index_rd slt75 (ev_base hNA rfl qA_135) hvals (ev_base hNA rfl qA_138) (by omega) (by omega) ?_)
        intro b143 o144 h0b143 h1b143 hc145
        have hp146 : PtC wA 0 w28.heap.size b143 o144 [(Value.int .i64 (W6.getD (pick.toNat % 6) V0).k), (Value.int .i64 (W6.getD (pick.toNat % 6) V0).n), (Value.string (bs (W6.getD (pick.toNat % 6) V0).s))] := ⟨by omega, by omega, fun j u hu => hc145 j u (by have := (List.getElem?_eq_some_iff.1 hu).1; simpa using this) ((fun j u hu => el_val (l := W6) (i := (pick.toNat % 6)) (by omega) (by omega) hu) j u hu)⟩
        exact obN_end rfl ⟨b143, o144, rfl, hp146⟩ (grown_refl _ _)
       ·
        intro aA wA hNA hRA hbsA hdpA
        have hRA : w132.grownBy wA none := hRA
        have z_wA := hRA.size
        have hc9 := hc9.keep0 hRA
        have hlabs := hlabs.keep0 hRA
        obtain ⟨b140, o141, qA_139, hp143⟩ := hdpA 18 _ 139 (by kernel_rfl) rfl rfl
        have hp143 : PtC wA 0 w28.heap.size b140 o141 [(Value.int .i64 (W6.getD (pick.toNat % 6) V0).k), (Value.int .i64 (W6.getD (pick.toNat % 6) V0).n), (Value.string (bs (W6.getD (pick.toNat % 6) V0).s))] := hp143
        have qA_133 : Sl aA 133 (Value.bool false) := hdpA 12 _ 133 (by kernel_rfl) rfl rfl
        clear hbsA hdpA
        refine g_true (j := 12) (dj := 133) (b := false) rfl rfl rfl (ev_base hNA rfl qA_133) (op_loadA (cs := [(Value.int .i64 (W6.getD (pick.toNat % 6) V0).k), (Value.int .i64 (W6.getD (pick.toNat % 6) V0).n), (Value.string (bs (W6.getD (pick.toNat % 6) V0).s))]) agg74 rfl (ev_base hNA rfl qA_139) (fun j u hu => hp143.2.2 j u hu) ?_)
        exact obN_end rfl rfl (grown_refl _ _)
       ·
        intro aA wA hNA hRA hbsA hdpA
        have qA_134 : Sl aA 134 (Value.agg #[(Value.int .i64 (takeX (D106.getD k2 default).2.1).1.k), (Value.int .i64 (takeX (D106.getD k2 default).2.1).1.n), (Value.string (bs (takeX (D106.getD k2 default).2.1).1.s))]) := hdpA 13 _ 134 (by kernel_rfl) rfl rfl
        have qA_140 : Sl aA 140 (Value.agg #[(Value.int .i64 (W6.getD (pick.toNat % 6) V0).k), (Value.int .i64 (W6.getD (pick.toNat % 6) V0).n), (Value.string (bs (W6.getD (pick.toNat % 6) V0).s))]) := hdpA 19 _ 140 (by kernel_rfl) rfl rfl
        have qA_133 : Sl aA 133 (Value.bool false) := hdpA 12 _ 133 (by kernel_rfl) rfl rfl
        refine g_true (j := 12) (dj := 133) (b := false) rfl rfl rfl (ev_base hNA rfl qA_133) (op_aeql (xs := [(Value.int .i64 (takeX (D106.getD k2 default).2.1).1.k), (Value.int .i64 (takeX (D106.getD k2 default).2.1).1.n), (Value.string (bs (takeX (D106.getD k2 default).2.1).1.s))]) (ys := [(Value.int .i64 (W6.getD (pick.toNat % 6) V0).k), (Value.int .i64 (W6.getD (pick.toNat % 6) V0).n), (Value.string (bs (W6.getD (pick.toNat % 6) V0).s))]) (b' := (decide ((takeX (D106.getD k2 default).2.1).1.k = (W6.getD (pick.toNat % 6) V0).k ∧ (takeX (D106.getD k2 default).2.1).1.n = (W6.getD (pick.toNat % 6) V0).n ∧ (takeX (D106.getD k2 default).2.1).1.s = (W6.getD (pick.toNat % 6) V0).s))) (ev_base hNA rfl qA_134) (ev_base hNA rfl qA_140) (eq74 (takeX (D106.getD k2 default).2.1).1.k (W6.getD (pick.toNat % 6) V0).k (takeX (D106.getD k2 default).2.1).1.n (W6.getD (pick.toNat % 6) V0).n (takeX (D106.getD k2 default).2.1).1.s (W6.getD (pick.toNat % 6) V0).s) rfl ?_)
        exact obN_end rfl rfl (grown_refl _ _)
       ·
        intro aA wA hNA hRA hbsA hdpA
        have qA_16 := (hbsA 16 rfl).trans (sl_base hN112 rfl s112_16)
        have qA_133 : Sl aA 133 (Value.bool false) := hdpA 12 _ 133 (by kernel_rfl) rfl rfl
        refine g_true (j := 12) (dj := 133) (b := false) rfl rfl rfl (ev_base hNA rfl qA_133) (op_move (ev_base hNA rfl qA_16) ?_)
        exact obN_end rfl rfl (grown_refl _ _)
       ·
        intro aA wA hNA hRA hbsA hdpA
        have qA_10 := (hbsA 10 rfl).trans (sl_base hN112 rfl s112_10)
        have qA_133 : Sl aA 133 (Value.bool false) := hdpA 12 _ 133 (by kernel_rfl) rfl rfl
        refine g_true (j := 12) (dj := 133) (b := false) rfl rfl rfl (ev_base hNA rfl qA_133) (op_move (ev_base hNA rfl qA_10) ?_)
        exact obN_end rfl rfl (grown_refl _ _)
       ·
        intro aA wA hNA hRA hbsA hdpA
        have qA_142 : Sl aA 142 (Value.int .i64 ((k2 : Nat) : Int)) := hdpA 21 _ 142 (by kernel_rfl) rfl rfl
        have qA_143 : Sl aA 143 (Value.int .i64 ((n : Nat) : Int)) := hdpA 22 _ 143 (by kernel_rfl) rfl rfl
        have qA_133 : Sl aA 133 (Value.bool false) := hdpA 12 _ 133 (by kernel_rfl) rfl rfl
        refine g_true (j := 12) (dj := 133) (b := false) rfl rfl rfl (ev_base hNA rfl qA_133) (op_cmp (b := (decide (((k2 : Nat) : Int) < ((n : Nat) : Int)))) (ev_base hNA rfl qA_142) (ev_base hNA rfl qA_143) (b_lss rfl) ?_)
        exact obN_end rfl rfl (grown_refl _ _)
       ·
        intro aA wA hNA hRA hbsA hdpA
        have qA_141 : Sl aA 141 (Value.bool (decide ((takeX (D106.getD k2 default).2.1).1.k = (W6.getD (pick.toNat % 6) V0).k ∧ (takeX (D106.getD k2 default).2.1).1.n = (W6.getD (pick.toNat % 6) V0).n ∧ (takeX (D106.getD k2 default).2.1).1.s = (W6.getD (pick.toNat % 6) V0).s))) := hdpA 20 _ 141 (by kernel_rfl) rfl rfl
        have qA_144 : Sl aA 144 (Value.bool (decide (((k2 : Nat) : Int) < ((n : Nat) : Int)))) := hdpA 23 _ 144 (by kernel_rfl) rfl rfl
        have qA_133 : Sl aA 133 (Value.bool false) := hdpA 12 _ 133 (by kernel_rfl) rfl rfl
        refine g_true (j := 12) (dj := 133) (b := false) rfl rfl rfl (ev_base hNA rfl qA_133) (op_neb Try.underlying4 (ev_base hNA rfl qA_141) (ev_base hNA rfl qA_144) ?_)
        exact obN_end rfl rfl (grown_refl _ _)
       ·
        intro aA wA hNA hRA hbsA hdpA
        have qA_133 : Sl aA 133 (Value.bool false) := hdpA 12 _ 133 (by kernel_rfl) rfl rfl
        have qA_145 : Sl aA 145 (Value.bool ((decide ((takeX (D106.getD k2 default).2.1).1.k = (W6.getD (pick.toNat % 6) V0).k ∧ (takeX (D106.getD k2 default).2.1).1.n = (W6.getD (pick.toNat % 6) V0).n ∧ (takeX (D106.getD k2 default).2.1).1.s = (W6.getD (pick.toNat % 6) V0).s)) != (decide (((k2 : Nat) : Int) < ((n : Nat) : Int))))) := hdpA 24 _ 145 (by kernel_rfl) rfl rfl
        refine op_pick_f (ev_base hNA rfl qA_133) (ev_base hNA rfl qA_145) ?_
        exact obN_end rfl rfl (grown_refl _ _)
       ·
        intro a147 w147 hN147 hd147 hbs147 hph147 E147
        have hd147 := hd147.trans hd112
        have s147_2 := (hbs147 2 rfl).trans (sl_base hN112 rfl s112_2)
        have s147_7 := (hbs147 7 rfl).trans (sl_base hN112 rfl s112_7)
        have s147_10 := (hbs147 10 rfl).trans (sl_base hN112 rfl s112_10)
        have s147_15 := (hbs147 15 rfl).trans (sl_base hN112 rfl s112_15)
        have s147_16 := (hbs147 16 rfl).trans (sl_base hN112 rfl s112_16)
        have s147_18 := (hbs147 18 rfl).trans (sl_hit hN112 rfl)
        have s147_19 := (hbs147 19 rfl).trans (sl_hit hN112 rfl)
        have s147_146 : Sl a147 146 (Value.bool ((decide ((takeX (D106.getD k2 default).2.1).1.k = (W6.getD (pick.toNat % 6) V0).k ∧ (takeX (D106.getD k2 default).2.1).1.n = (W6.getD (pick.toNat % 6) V0).n ∧ (takeX (D106.getD k2 default).2.1).1.s = (W6.getD (pick.toNat % 6) V0).s)) != (decide (((k2 : Nat) : Int) < ((n : Nat) : Int))))) := hph147 25 _ 146 rfl rfl
        clear hbs147 hph147
        have E147 : w132.grownBy w147 none := E147
        have z_w147 := E147.size
        have hb9 := hb9.keep0 E147
        have hc9 := hc9.keep0 E147
        have hvals := hvals.keep0 E147
        have hlabs := hlabs.keep0 E147
        have hlall := all9 hlall fun _ h => h.keep0 E147
        have hTM := hTM.kz E147
        have hO101 := hO101.keep0 E147
        have hO106 := hO106.keep0 E147
        have hks106 := all9 hks106 fun _ h => h.keep0 E147
        have hO121 := hO121.keep0 E147
        have hb := below_step0 hb E147 hb.size
        refine hK135 _ _ (wp_cond_split (ev_base hN147 rfl s147_146) (fun c146 => ?_) (fun c146 => ?_))
        ·
         exact absurd c146 (by rw [hTX, decide_eq_decide.2 (vl_iff.trans (hiff.trans (by omega : k2 < n ↔ ((k2 : Nat) : Int) < ((n : Nat) : Int))))]; exact fun q9 => Bool.noConfusion ((bne_self_eq_false _).symm.trans q9))
        ·
         refine wp_skip (hK134 _ _ (seq_any fun K148 hK148 => ?_))
         refine one_reg (op_move (ev_base hN147 rfl s147_16) (op_gtr (ev_hit hN147 rfl) rfl (fun c148 => ?_) (fun c148 => ?_)))
         ·
          refine op_move (ev_hit hN147 rfl) (g_true (j := 2) (dj := 149) (b := true) rfl rfl rfl (ev_hit hN147 rfl) (op_move (ev_base hN147 rfl s147_16) (g_true (j := 2) (dj := 149) (b := true) rfl rfl rfl (ev_hit hN147 rfl) (op_move (ev_base hN147 rfl s147_10) (g_true (j := 2) (dj := 149) (b := true) rfl rfl rfl (ev_hit hN147 rfl) (op_lss (ev_hit hN147 rfl) (ev_hit hN147 rfl) (fun c152 => ?_) (fun c152 => ?_)))))))
          ·
           refine op_pick_t (ev_hit hN147 rfl) (ev_hit hN147 rfl) ?_
           refine reg_nil (hK148 _ _ (wp_cond_true (ev_hit hN147 rfl) (seq_any fun K149 hK149 => one_reg ?_)))
           obtain ⟨jp, hjp, hatp, hiffp⟩ := hIn.at hsM (XW_ok b) hVok (m := k2 - 1) (by omega)
           have hDp : (D106.getD (k2 - 1) default).2 = entX (XW b) (LW c) jp := (d0_at e0 (j := k2 - 1) (by omega)).trans hatp
           have hTXp : takeX (D106.getD (k2 - 1) default).2.1 = (XW b jp, LW c jp, jp, 0) := by rw [hDp]; exact takeX_put0 (XW_ok b jp).1 (XW_ok b jp).2 (LW_may c jp) (by omega)
           have hklp : (D106.getD (k2 - 1) default).2.1.length ≤ 1000000000000 := by rw [hDp]; exact Nat.le_trans entX_short (by decide)
           have hnx := InX.next (m := k2 - 1) hsM (XW_ok b) (LW_may c) (by omega) hatp (by rw [show k2 - 1 + 1 = k2 by omega]; exact hat) (hiffp.2 (by omega)) (hiff.2 (by omega)) (by omega) (by omega)
           have hl1 : (takeX (D106.getD k2 default).2.1).2.1.length ≤ 9223372036854775807 := by rw [hTX]; exact Nat.le_trans (mayL_len (LW_may c ja)) (by decide)
           have hl2 : (takeX (D106.getD (k2 - 1) default).2.1).2.1.length ≤ 9223372036854775807 := by rw [hTXp]; exact Nat.le_trans (mayL_len (LW_may c jp)) (by decide)
           refine op_move (ev_base hN147 rfl s147_15) (op_move (ev_base hN147 rfl s147_16) (op_sub (r := ((k2 - 1 : Nat) : Int)) (ev_hit hN147 rfl) rfl ((sub64 (by omega)).trans (by omega)) ?_))
           refine op_index_rd slt48 (ev_hit hN147 rfl) hO106.rdw (ev_hit hN147 rfl) (by omega) (by omega) ?_
           intro b150 o151 h0b150 h1b150 hc152
           refine op_field fld51_0 (ev_hit hN147 rfl) (op_load1 (v := (D106.getD (k2 - 1) default).1) one27 (ev_hit hN147 rfl) (hc152 0 ((D106.getD (k2 - 1) default).1) (by decide) ((el_pI (i := (k2 - 1)) (by omega) (by first | omega | (simp only [List.length_drop, List.length_take]; omega))) 0 ((D106.getD (k2 - 1) default).1) rfl)) ?_)
           have hq153 : RdC w147 0 w147.heap.size 1 (D106.getD (k2 - 1) default).1 (D106.getD (k2 - 1) default).2.1.length ((D106.getD (k2 - 1) default).2.1.map u8v) := by have hh : RdC w147 0 w147.heap.size 1 _ _ _ := ((show Own _ _ _ _ (D106.getD (k2 - 1) default).1 (D106.getD (k2 - 1) default).2.1.length ((D106.getD (k2 - 1) default).2.1.map u8v) from hks106 (pk (D106.getD (k2 - 1) default)) (List.mem_map.2 ⟨(D106.getD (k2 - 1) default), (getD_mem (by first | omega | (simp only [List.length_drop, List.length_take]; omega))), rfl⟩)).rdw.mono (L' := 0) (B' := w147.heap.size) (Nat.zero_le _) (by omega)); first | simpa using hh | simpa [Nat.add_comm, Nat.add_left_comm, Nat.add_assoc] using hh | exact hh.cast (by first | rfl | (simp; try omega)) (by first | rfl | (simp; done) | simp [u8v])
           refine op_fn (vs := [(D106.getD (k2 - 1) default).1]) ok38 ⟨(ev_hit hN147 rfl), trivial⟩ (IXTake_ret (D106.getD (k2 - 1) default).2.1 (D106.getD (k2 - 1) default).1 _ (by first | assumption | omega | (simp only [List.length_append, List.length_cons, List.length_nil, List.length_drop, List.length_take]; omega) | (dsimp only; omega) | decide | (simp [keyV, be8_len]; done)) hq153) ?_
           rintro _ w155 ⟨E156, u154, rfl, hO154⟩
           have E156 := grown_of_below E156
           have z_w155 := E156.size
           have hb9 := hb9.keep0 E156
           have hc9 := hc9.keep0 E156
           have hvals := hvals.keep0 E156
           have hlabs := hlabs.keep0 E156
           have hlall := all9 hlall fun _ h => h.keep0 E156
           have hTM := hTM.kz E156
           have hO101 := hO101.keep0 E156
           have hO106 := hO106.keep0 E156
           have hks106 := all9 hks106 fun _ h => h.keep0 E156
           have hO121 := hO121.keep0 E156
           have hb := below_step0 hb E156 hb.size
           have hO154 := hO154.mono (base' := w147.heap.size) (by omega)
           refine op_move (ev_hit hN147 rfl) (op_extract (ev_hit hN147 rfl) rfl ?_)
           refine op_extract (ev_hit hN147 rfl) rfl ?_
           refine op_extract (ev_hit hN147 rfl) rfl ?_
           refine op_extract (ev_hit hN147 rfl) rfl ?_
           refine op_alloc (cs := [(Value.int .i64 0), (Value.int .i64 0), (Value.string (bs []))]) zero74 rfl ?_
           intro w159 b160 lo_b160 hi_b160 hB162 E161
           have dj163 : ¬ FT b160 := fun hf => by have := (hTM.lt _ hf).2; omega
           have z_w159 := E161.size
           have hb9 := hb9.keep0 E161
           have hc9 := hc9.keep0 E161
           have hvals := hvals.keep0 E161
           have hlabs := hlabs.keep0 E161
           have hlall := all9 hlall fun _ h => h.keep0 E161
           have hTM := hTM.kz E161
           have hO101 := hO101.keep0 E161
           have hO106 := hO106.keep0 E161
           have hks106 := all9 hks106 fun _ h => h.keep0 E161
           have hO121 := hO121.keep0 E161
           have hO154 := hO154.keep0 E161
           have hb := below_step0 hb E161 hb.size
           have hB162_old := hB162
           refine op_store (vs := [(Value.int .i64 (takeX (D106.getD (k2 - 1) default).2.1).1.k), (Value.int .i64 (takeX (D106.getD (k2 - 1) default).2.1).1.n), (Value.string (bs (takeX (D106.getD (k2 - 1) default).2.1).1.s))]) (cs' := [(Value.int .i64 (takeX (D106.getD (k2 - 1) default).2.1).1.k), (Value.int .i64 (takeX (D106.getD (k2 - 1) default).2.1).1.n), (Value.string (bs (takeX (D106.getD (k2 - 1) default).2.1).1.s))]) size74 (ev_hit hN147 rfl) (ev_hit hN147 rfl) rfl rfl rfl hB162 (Nat.le_of_ble_eq_true rfl) rfl ?_
           intro w166 hB162 E167
           have z_w166 := E167.size
           have hb9 := hb9.keep E167 (fun k hk => .inr (by simp at hk; omega))
           have hc9 := hc9.keep E167 (fun k hk => .inr (by simp at hk; omega))
           have hvals := hvals.keep E167 (fun k hk => .inr (by simp at hk; omega))
           have hlabs := hlabs.keep E167 (fun k hk => .inr (by simp at hk; omega))
           have hlall := all9 hlall fun _ h => h.keep E167 (fun k hk => .inr (by simp at hk; omega))
           have hTM := hTM.keepG (Gr.of E167) (Dj.one dj163)
           have hO101 := hO101.keepX hB162_old E167 (by decide)
           have hO106 := hO106.keepX hB162_old E167 (by decide)
           have hks106 := all9 hks106 fun _ h => h.keepX hB162_old E167 (by decide)
           have hO121 := hO121.keepX hB162_old E167 (by decide)
           have hO154 := hO154.keepX hB162_old E167 (by decide)
           have hb := below_step1 hb E167 hb.size (by omega)
           refine op_assign (ev_hit hN147 rfl) (op_assign (ev_hit hN147 rfl) (op_assign (ev_hit hN147 rfl) ?_))
           refine reg_nil (hK149 _ _ (seq_any fun K168 hK168 => one_reg (op_move (ev_hit hN147 rfl) (op_move (ev_base hN147 rfl s147_18) (op_fn (vs := [u154, u121]) ok39 ⟨(ev_hit hN147 rfl), ⟨(ev_hit hN147 rfl), trivial⟩⟩ (cmpL_ret (takeX (D106.getD (k2 - 1) default).2.1).2.1 (takeX (D106.getD k2 default).2.1).2.1 _ _ _ (by first | assumption | omega | (simp only [List.length_append, List.length_cons, List.length_nil, List.length_drop, List.length_take]; omega) | (dsimp only; omega) | decide | (simp [keyV, be8_len]; done)) (by first | assumption | omega | (simp only [List.length_append, List.length_cons, List.length_nil, List.length_drop, List.length_take]; omega) | (dsimp only; omega) | decide | (simp [keyV, be8_len]; done)) (show RdC w166 0 w166.heap.size 1 u154 (takeX (D106.getD (k2 - 1) default).2.1).2.1.length ((takeX (D106.getD (k2 - 1) default).2.1).2.1.map u16v) from by have hh : RdC w166 0 w166.heap.size 1 _ _ _ := (hO154.rdw.mono (L' := 0) (B' := w166.heap.size) (Nat.zero_le _) (by omega)); first | exact hh | exact hh.cast (by first | omega | (simp; try omega)) (by first | rfl | simp [u16v])) (show RdC w166 0 w166.heap.size 1 u121 (takeX (D106.getD k2 default).2.1).2.1.length ((takeX (D106.getD k2 default).2.1).2.1.map u16v) from by have hh : RdC w166 0 w166.heap.size 1 _ _ _ := (hO121.rdw.mono (L' := 0) (B' := w166.heap.size) (Nat.zero_le _) (by omega)); first | exact hh | exact hh.cast (by first | omega | (simp; try omega)) (by first | rfl | simp [u16v]))) ?_)))))
           rintro _ w169 ⟨E170, rfl⟩
           have E170 := grown_of_below E170
           have z_w169 := E170.size
           have hb9 := hb9.keep0 E170
           have hc9 := hc9.keep0 E170
           have hvals := hvals.keep0 E170
           have hlabs := hlabs.keep0 E170
           have hlall := all9 hlall fun _ h => h.keep0 E170
           have hTM := hTM.kz E170
           have hO101 := hO101.keep0 E170
           have hO106 := hO106.keep0 E170
           have hks106 := all9 hks106 fun _ h => h.keep0 E170
           have hb := below_step0 hb E170 hb.size
           refine op_assign (ev_hit hN147 rfl) (reg_nil (hK168 _ _ (seq_any fun K171 hK171 => ?_)))
           refine one_reg (op_move (ev_hit hN147 rfl) (op_gtr (ev_hit hN147 rfl) rfl (fun c170 => ?_) (fun c170 => ?_)))
           ·
            rw [hTX, hTXp] at c170
            exact absurd c170 (by have := hnx.1; omega)
           ·
            refine op_move (ev_hit hN147 rfl) (g_true (j := 2) (dj := 171) (b := false) rfl rfl rfl (ev_hit hN147 rfl) (op_move (ev_hit hN147 rfl) (g_true (j := 2) (dj := 171) (b := false) rfl rfl rfl (ev_hit hN147 rfl) (op_eql (ev_hit hN147 rfl) rfl (fun c173 => ?_) (fun c173 => ?_)))))
            ·
             refine g_true (j := 2) (dj := 171) (b := false) rfl rfl rfl (ev_hit hN147 rfl) ?_
             refine op_move (ev_hit hN147 rfl) (g_true (j := 5) (dj := 174) (b := true) rfl rfl rfl (ev_hit hN147 rfl) (op_move (ev_hit hN147 rfl) (g_true (j := 5) (dj := 174) (b := true) rfl rfl rfl (ev_hit hN147 rfl) (op_move (ev_base hN147 rfl s147_19) (g_true (j := 5) (dj := 174) (b := true) rfl rfl rfl (ev_hit hN147 rfl) (op_geq (ev_hit hN147 rfl) (ev_hit hN147 rfl) (fun c177 => ?_) (fun c177 => ?_)))))))
             ·
              rw [hTX, hTXp] at c173 c177
              have h9 := hnx.2 c173
              exact absurd c177 (by show ¬ ((ja : Nat) : Int) ≤ ((jp : Nat) : Int); omega)
             ·
              refine g_true (j := 2) (dj := 171) (b := false) rfl rfl rfl (ev_hit hN147 rfl) (op_pick_t (ev_hit hN147 rfl) (ev_hit hN147 rfl) ?_)
              refine op_pick_f (ev_hit hN147 rfl) (ev_hit hN147 rfl) ?_
              refine reg_nil ?_
              refine hK171 _ _ (wp_cond_false (ev_hit hN147 rfl) (wp_skip (hK115 _ _ (one_reg (op_move (ev_base hN147 rfl s147_16) (op_add (ev_hit hN147 rfl) rfl (add64 (by omega)) ?_))))))
              skip
              refine op_assign (ev_hit hN147 rfl) (reg_nil ?_)
              -- round 30F 34F 51F 107T 122F 131F 146F 148T 152T 170F 173T 177F
              exact loop_next _ hN147 hd147 ⟨(k2 + 1), rfl, (sl_base hN147 rfl s147_2), (sl_base hN147 rfl s147_7), (sl_base hN147 rfl s147_10), (sl_base hN147 rfl s147_15), (sl_hit hN147 rfl).trans (congrArg (Value.int .i64) (by omega)), (by omega), hb, (by omega), hb9, hc9, hvals, hlabs, hlall, hTM, hO101, hO106, hks106⟩ (by omega)
            ·
             refine g_true (j := 2) (dj := 171) (b := false) rfl rfl rfl (ev_hit hN147 rfl) (op_move (ev_hit hN147 rfl) (g_false (j := 5) (dj := 174) (b := true) rfl rfl rfl (ev_hit hN147 rfl) rfl rfl (g_false (j := 5) (dj := 174) (b := true) rfl rfl rfl (ev_hit hN147 rfl) rfl rfl (g_false (j := 5) (dj := 174) (b := true) rfl rfl rfl (ev_hit hN147 rfl) rfl rfl (g_true (j := 2) (dj := 171) (b := false) rfl rfl rfl (ev_hit hN147 rfl) (op_pick_f (ev_hit hN147 rfl) rfl ?_))))))
             refine op_pick_f (ev_hit hN147 rfl) (ev_hit hN147 rfl) ?_
             refine reg_nil ?_
             refine hK171 _ _ (wp_cond_false (ev_hit hN147 rfl) (wp_skip (hK115 _ _ (one_reg (op_move (ev_base hN147 rfl s147_16) (op_add (ev_hit hN147 rfl) rfl (add64 (by omega)) ?_))))))
             skip
             refine op_assign (ev_hit hN147 rfl) (reg_nil ?_)
             -- round 30F 34F 51F 107T 122F 131F 146F 148T 152T 170F 173F
             exact loop_next _ hN147 hd147 ⟨(k2 + 1), rfl, (sl_base hN147 rfl s147_2), (sl_base hN147 rfl s147_7), (sl_base hN147 rfl s147_10), (sl_base hN147 rfl s147_15), (sl_hit hN147 rfl).trans (congrArg (Value.int .i64) (by omega)), (by omega), hb, (by omega), hb9, hc9, hvals, hlabs, hlall, hTM, hO101, hO106, hks106⟩ (by omega)
          ·
           refine op_pick_t (ev_hit hN147 rfl) (ev_hit hN147 rfl) ?_
           refine reg_nil ?_
           refine hK148 _ _ (wp_cond_false (ev_hit hN147 rfl) (wp_skip (hK115 _ _ (one_reg (op_move (ev_base hN147 rfl s147_16) (op_add (ev_hit hN147 rfl) rfl (add64 (by omega)) ?_))))))
           skip
           refine op_assign (ev_hit hN147 rfl) (reg_nil ?_)
           -- round 30F 34F 51F 107T 122F 131F 146F 148T 152F
           exact loop_next _ hN147 hd147 ⟨(k2 + 1), rfl, (sl_base hN147 rfl s147_2), (sl_base hN147 rfl s147_7), (sl_base hN147 rfl s147_10), (sl_base hN147 rfl s147_15), (sl_hit hN147 rfl).trans (congrArg (Value.int .i64) (by omega)), (by omega), hb, (by omega), hb9, hc9, hvals, hlabs, hlall, hTM, hO101, hO106, hks106⟩ (by omega)
         ·
          refine op_move (ev_hit hN147 rfl) (g_false (j := 2) (dj := 149) (b := true) rfl rfl rfl (ev_hit hN147 rfl) rfl rfl (g_false (j := 2) (dj := 149) (b := true) rfl rfl rfl (ev_hit hN147 rfl) rfl rfl (g_false (j := 2) (dj := 149) (b := true) rfl rfl rfl (ev_hit hN147 rfl) rfl rfl (op_pick_f (ev_hit hN147 rfl) rfl ?_))))
          refine reg_nil ?_
          refine hK148 _ _ (wp_cond_false (ev_hit hN147 rfl) (wp_skip (hK115 _ _ (one_reg (op_move (ev_base hN147 rfl s147_16) (op_add (ev_hit hN147 rfl) rfl (add64 (by omega)) ?_))))))
          skip
          refine op_assign (ev_hit hN147 rfl) (reg_nil ?_)
          -- round 30F 34F 51F 107T 122F 131F 146F 148F
          exact loop_next _ hN147 hd147 ⟨(k2 + 1), rfl, (sl_base hN147 rfl s147_2), (sl_base hN147 rfl s147_7), (sl_base hN147 rfl s147_10), (sl_base hN147 rfl s147_15), (sl_hit hN147 rfl).trans (congrArg (Value.int .i64) (by omega)), (by omega), hb, (by omega), hb9, hc9, hvals, hlabs, hlall, hTM, hO101, hO106, hks106⟩ (by omega)
    ·
     refine reg_nil (hK114 _ _ (wp_cond_false (ev_hit hN112 rfl) (wp_exit (then_exit (then_exit (blk_hit ?_))))))
     refine hK110 _ _ (seq_any fun K172 hK172 => one_reg (op_move (ev_base hN112 rfl s112_15) (op_len_rd Try.underlying48 (ev_hit hN112 rfl) hO106.rdw ?_)))
     refine op_move (ev_base hN112 rfl s112_10) (op_geq (ev_hit hN112 rfl) (ev_hit hN112 rfl) (fun c183 => ?_) (fun c183 => ?_))
     ·
      refine op_assign (ev_hit hN112 rfl) (reg_nil (hK172 _ _ (wp_ret ?_)))
      refine ret1 rfl hd112 (ev_hit hN112 rfl) ⟨_, rfl, ?_⟩
      exact ⟨hb, rfl⟩
     ·
      exfalso; omega

end Go.Proofs.Ytcpfdfejojghbaa

namespace Go.Proofs.Ytcpfdfejojghbaa
open Go.Gx Go.RowKit
theorem rd_le {w : World} {L B sz n : Nat} {v : Value} {cs : List Value} (h : RdC w L B sz v n cs) : n ≤ 9223372036854775807 := by obtain ⟨_, _, _, _, hq, hm, _⟩ := h; exact Nat.le_trans hq hm
theorem cells5 : Try.prog.cellsOf 5 = 1 := by kernel_rfl
theorem flat_u8v (l : List UInt8) : l.flatMap (fun c => [u8v c]) = l.map u8v := by induction l with | nil => rfl | cons c l ih => simp [ih]
theorem dec27 {H : Type} {enc : TypeId × Value → H} {w : World} {base : Nat} {spare : Nat → Bool} {held : Bool} : Dec enc Try.prog w base spare held 27 (fun p : Value × List UInt8 => [p.1]) (fun p => RdC w 0 w.heap.size 1 p.1 p.2.length (p.2.map u8v)) :=
  (Dec.slice Try.underlying27 (by rw [cells5]; decide) (Dec.u8 Try.underlying5) (fun _ _ => by rw [cells5]; rfl)).map fun p hp => ⟨p, rfl, by have hq := hp.1; rwa [cells5, flat_u8v] at hq⟩
end Go.Proofs.Ytcpfdfejojghbaa
