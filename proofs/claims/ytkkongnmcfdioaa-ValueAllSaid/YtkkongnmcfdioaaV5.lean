/- Walks, written by a program: what each function of the translation hands back. -/
import Derived.Test.YtkkongnmcfdioaaV4
namespace Go.Proofs.Ytkkongnmcfdioaa
open Go.Gx Go.RowKit
attribute [local irreducible] wpList Code.wp Calls

theorem Key_ret (bl : List UInt8) (x : Vl) (v : Value) (w : World) (hl : bl.length ≤ 1000000000) (hs : x.s.length ≤ 1000000000) (hn : -9223372036854775808 ≤ x.n ∧ x.n ≤ 9223372036854775807) (hv : RdC w 0 w.heap.size 1 v bl.length (bl.map u8v)) : Ret Try.prog 34 #[v, (Value.agg #[(Value.int .i64 x.k), (Value.int .i64 x.n), (Value.string (bs x.s))])] w (fun v' w' => Below w.heap.size w w' ∧ Own w' w.heap.size 5 1 v' (bl.length + (keyV x).length) ((bl ++ keyV x).map u8v)) := by
  have hb := Below.refl w.heap.size w
  refine enter (N := 43) Try.func34 rfl rfl (by simp) fun a0 hN hd hA => ?_
  have s0 : a0.tmps.getD 0 undef = v := hA 0 (by simp)
  have s1 : a0.tmps.getD 1 undef = (Value.agg #[(Value.int .i64 x.k), (Value.int .i64 x.n), (Value.string (bs x.s))]) := hA 1 (by simp)
  clear hA
  refine seq_any fun K148 hK148 => ?_
  refine one_reg ?_
  refine op_box (cs := [(Value.int .i64 x.k), (Value.int .i64 x.n), (Value.string (bs x.s))]) (ev_base hN rfl s1) rfl ?_
  intro w149 b150 lo_b150 hi_b150 hB152 E151
  have z_w149 := E151.size
  have hv := hv.keep0 E151
  have hb := below_step0 hb E151 hb.size
  refine op_assign rfl ?_
  refine reg_nil ?_
  refine hK148 _ _ ?_
  refine seq_any fun K153 hK153 => ?_
  refine one_reg ?_
  refine op_bslice (e := 5) (pv := []) (cs := []) trivial (by kernel_rfl) ?_
  intro w154 b155 lo_b155 hi_b155 hB157 E156
  have z_w154 := E156.size
  have hv := hv.keep0 E156
  have hB152 := hB152.keep0 E156
  have hb := below_step0 hb E156 hb.size
  refine op_move (ev_base hN rfl s0) ?_
  have hP163 := (Own.ofBx (base := w.heap.size) (sz := 1) (n := 0) hB157 rfl (by decide) (by omega))
  refine op_append slt22 (ev_hit hN rfl) hP163 (ev_hit hN rfl) (Src.ofRd Try.underlying22 (by decide) hv (by simp [Value.oneCell', u8v])) (by unfold maxLen; omega) (by omega) hb.size ?_
  intro v158 w159 hO161 E160 hm162
  have z_w159 := E160.size
  have hv := hv.keepO hP163 E160 (by omega)
  have hB152 := hB152.keepO hP163 E160 (by decide)
  have hb := below_stepO hb hP163 E160 hb.size (by omega)
  have hO161 : Own w159 w.heap.size 5 1 v158 (0 + bl.length) ((bl).map u8v) := by simpa [u8v] using hO161
  refine op_assign (ev_hit hN rfl) ?_
  refine reg_nil ?_
  refine hK153 _ _ ?_
  refine seq_any fun K164 hK164 => ?_
  refine seq_any fun K165 hK165 => ?_
  refine one_reg ?_
  refine op_field fld50_0 (ev_hit hN rfl) ?_
  refine op_load1 (v := (Value.int .i64 x.k)) one3 (ev_hit hN rfl) (hB152.cell rfl) ?_
  refine op_eql (ev_hit hN rfl) rfl (fun c13 => ?_) (fun c13 => ?_)
  · -- 13 True
    refine reg_nil ?_
    refine hK165 _ _ ?_
    refine wp_cond_true (ev_hit hN rfl) ?_
    refine seq_any fun K166 hK166 => ?_
    refine one_reg ?_
    refine op_move (ev_hit hN rfl) ?_
    refine op_bslice (e := 5) (pv := [(0, (Value.int .u8 1))]) (cs := [(Value.int .u8 1)]) ⟨rfl, rfl, trivial⟩ (by kernel_rfl) ?_
    intro w167 b168 lo_b168 hi_b168 hB170 E169
    have z_w167 := E169.size
    have hv := hv.keep0 E169
    have hB152 := hB152.keep0 E169
    have hO161 := hO161.keep0 E169
    have hb := below_step0 hb E169 hb.size
    have hP176 := hO161
    refine op_append slt22 (ev_hit hN rfl) hP176 (ev_hit hN rfl) (Src.ofRd Try.underlying22 (by decide) (RdC.ofBx (sz := 1) (n := 1) hB170 rfl (by decide)) (by simp [Value.oneCell', u8v])) (by unfold maxLen; omega) (by omega) hb.size ?_
    intro v171 w172 hO174 E173 hm175
    have z_w172 := E173.size
    have hv := hv.keepO hP176 E173 (by omega)
    have hB152 := hB152.keepO hP176 E173 (by decide)
    have hb := below_stepO hb hP176 E173 hb.size (by omega)
    have hO174 : Own w172 w.heap.size 5 1 v171 ((0 + bl.length) + 1) (((bl ++ [1])).map u8v) := by simpa [u8v] using hO174
    refine op_assign (ev_hit hN rfl) ?_
    refine reg_nil ?_
    refine hK166 _ _ ?_
    refine seq_any fun K177 hK177 => ?_
    refine one_reg ?_
    refine op_field fld50_1 (ev_hit hN rfl) ?_
    refine op_load1 (v := (Value.int .i64 x.n)) one2 (ev_hit hN rfl) (hB152.cell rfl) ?_
    refine op_conv (r := ((if x.n < 0 then (x.n + 18446744073709551616).toNat else x.n.toNat : Nat) : Int)) (ev_hit hN rfl) us2 Try.underlying76 (u64_of_i64 hn) ?_
    refine op_xor (r := (upN x.n : Int)) (ev_hit hN rfl) rfl (xor_up hn) ?_
    refine op_assign (ev_hit hN rfl) ?_
    refine reg_nil ?_
    refine hK177 _ _ ?_
    refine seq_any fun K178 hK178 => ?_
    refine seq_any fun K179 hK179 => ?_
    refine one_reg ?_
    refine op_assign rfl ?_
    refine reg_nil ?_
    refine hK179 _ _ ?_
    refine wp_block ?_
    refine loop_m (fun m a w' => ∃ (i : Nat) (u : Value), m = 8 - i ∧ (a.tmps.getD 0 undef = v) ∧ (a.tmps.getD 1 undef = (Value.agg #[(Value.int .i64 x.k), (Value.int .i64 x.n), (Value.string (bs x.s))])) ∧ (a.tmps.getD 3 undef = (ptr b150 0)) ∧ (a.tmps.getD 4 undef = (Value.slice none 0 0)) ∧ (a.tmps.getD 6 undef = (Value.int .u64 (upN x.n : Int))) ∧ (a.tmps.getD 8 undef = (Value.slice (some ⟨b155, 0, none⟩) 0 0)) ∧ (a.tmps.getD 9 undef = v) ∧ (a.tmps.getD 10 undef = v158) ∧ (a.tmps.getD 11 undef = (ptr b150 0)) ∧ (a.tmps.getD 12 undef = (Value.int .i64 x.k)) ∧ (a.tmps.getD 13 undef = (Value.bool true)) ∧ (a.tmps.getD 14 undef = v158) ∧ (a.tmps.getD 15 undef = (Value.slice (some ⟨b168, 0, none⟩) 1 1)) ∧ (a.tmps.getD 16 undef = v171) ∧ (a.tmps.getD 17 undef = (ptr b150 1)) ∧ (a.tmps.getD 18 undef = (Value.int .i64 x.n)) ∧ (a.tmps.getD 19 undef = (Value.int .u64 ((if x.n < 0 then (x.n + 18446744073709551616).toNat else x.n.toNat : Nat) : Int))) ∧ (a.tmps.getD 20 undef = (Value.int .u64 (upN x.n : Int))) ∧ (a.tmps.getD 7 undef = (Value.int .i64 (56 - 8 * (i : Int)))) ∧ (a.tmps.getD 5 undef = u) ∧ (i ≤ 8) ∧ (Below w.heap.size w w') ∧ (RdC w' 0 w.heap.size 1 v bl.length (bl.map u8v)) ∧ (Bx w' b150 50 [(Value.int .i64 x.k), (Value.int .i64 x.n), (Value.string (bs x.s))]) ∧ (Own w' w.heap.size 5 1 u (bl.length + 1 + i) (((bl ++ 1 :: (be8 (upN x.n)).take i)).map u8v))) _ hN hd ⟨0, _, rfl, (sl_base hN rfl s0), (sl_base hN rfl s1), (sl_hit hN rfl), (sl_hit hN rfl), (sl_hit hN rfl), (sl_hit hN rfl), (sl_hit hN rfl), (sl_hit hN rfl), (sl_hit hN rfl), (sl_hit hN rfl), (sl_hit hN rfl), (sl_hit hN rfl), (sl_hit hN rfl), (sl_hit hN rfl), (sl_hit hN rfl), (sl_hit hN rfl), (sl_hit hN rfl), (sl_hit hN rfl), (sl_hit hN rfl).trans (congrArg (Value.int .i64) (by omega)), (sl_hit hN rfl), Nat.zero_le _, hb, hv, hB152, (by simpa [Nat.add_comm] using hO174)⟩ ?_
    rintro _ a180 w180 hN180 hd180 ⟨i, u, rfl, s180_0, s180_1, s180_3, s180_4, s180_6, s180_8, s180_9, s180_10, s180_11, s180_12, s180_13, s180_14, s180_15, s180_16, s180_17, s180_18, s180_19, s180_20, s180_7, s180_5, hi, hb, hv, hB152, hO181⟩
    have z_w180 := hb.size
    refine seq_any fun K182 hK182 => ?_
    refine seq_any fun K183 hK183 => ?_
    refine one_reg ?_
    refine op_move (ev_base hN180 rfl s180_7) ?_
    refine op_geq (ev_hit hN180 rfl) rfl (fun c22 => ?_) (fun c22 => ?_)
    · -- 22 True
      refine reg_nil ?_
      refine hK183 _ _ ?_
      refine wp_cond_true (ev_hit hN180 rfl) ?_
      refine wp_skip ?_
      refine hK182 _ _ ?_
      refine seq_any fun K184 hK184 => ?_
      refine wp_block ?_
      refine one_reg ?_
      refine op_move (ev_base hN180 rfl s180_5) ?_
      refine op_move (ev_base hN180 rfl s180_6) ?_
      refine op_move (ev_base hN180 rfl s180_7) ?_
      refine op_conv (r := (56 - 8 * (i : Int))) (ev_hit hN180 rfl) us3 Try.underlying95 (wrap_u64 (by omega)) ?_
      refine op_shr (r := (((upN x.n / 2 ^ (56 - 8 * i)) : Nat) : Int)) (ev_hit hN180 rfl) (ev_hit hN180 rfl) (by omega) (shr_nat (j := 56 - 8 * i) (by omega) (by show 56 - 8 * i ≤ 64; omega)) ?_
      refine op_conv (r := ((UInt8.ofNat (upN x.n / 2 ^ (56 - 8 * i))).toNat : Int)) (ev_hit hN180 rfl) us76 Try.underlying5 conv_u8 ?_
      refine op_bslice (e := 5) (pv := [(0, (Value.int .u8 ((UInt8.ofNat (upN x.n / 2 ^ (56 - 8 * i))).toNat : Int)))]) (cs := [(Value.int .u8 ((UInt8.ofNat (upN x.n / 2 ^ (56 - 8 * i))).toNat : Int))]) ⟨rfl, (ev_hit hN180 rfl), trivial⟩ (by kernel_rfl) ?_
      intro w185 b186 lo_b186 hi_b186 hB188 E187
      have z_w185 := E187.size
      have hv := hv.keep0 E187
      have hB152 := hB152.keep0 E187
      have hO181 := hO181.keep0 E187
      have hb := below_step0 hb E187 hb.size
      have hP194 := hO181
      refine op_append slt22 (ev_hit hN180 rfl) hP194 (ev_hit hN180 rfl) (Src.ofRd Try.underlying22 (by decide) (RdC.ofBx (sz := 1) (n := 1) hB188 rfl (by decide)) (by simp [Value.oneCell', u8v])) (by unfold maxLen; omega) (by omega) hb.size ?_
      intro v189 w190 hO192 E191 hm193
      have z_w190 := E191.size
      have hv := hv.keepO hP194 E191 (by omega)
      have hB152 := hB152.keepO hP194 E191 (by decide)
      have hb := below_stepO hb hP194 E191 hb.size (by omega)
      have hO192 : Own w190 w.heap.size 5 1 v189 ((bl.length + 1 + i) + 1) ((((bl ++ 1 :: (be8 (upN x.n)).take i) ++ [(UInt8.ofNat (upN x.n / 2 ^ (56 - 8 * i)))])).map u8v) := by simpa [u8v] using hO192
      refine op_assign (ev_hit hN180 rfl) ?_
      refine reg_nil ?_
      refine hK184 _ _ ?_
      refine one_reg ?_
      refine op_move (ev_base hN180 rfl s180_7) ?_
      refine op_sub (ev_hit hN180 rfl) rfl (sub64 (by omega)) ?_
      refine op_assign (ev_hit hN180 rfl) ?_
      refine reg_nil ?_
      -- round 13T 22T
      exact loop_next _ hN180 hd180 ⟨i + 1, _, rfl, (sl_base hN180 rfl s180_0), (sl_base hN180 rfl s180_1), (sl_base hN180 rfl s180_3), (sl_base hN180 rfl s180_4), (sl_base hN180 rfl s180_6), (sl_base hN180 rfl s180_8), (sl_base hN180 rfl s180_9), (sl_base hN180 rfl s180_10), (sl_base hN180 rfl s180_11), (sl_base hN180 rfl s180_12), (sl_base hN180 rfl s180_13), (sl_base hN180 rfl s180_14), (sl_base hN180 rfl s180_15), (sl_base hN180 rfl s180_16), (sl_base hN180 rfl s180_17), (sl_base hN180 rfl s180_18), (sl_base hN180 rfl s180_19), (sl_base hN180 rfl s180_20), (sl_hit hN180 rfl).trans (congrArg (Value.int .i64) (by omega)), (sl_hit hN180 rfl), (by omega), hb, hv, hB152, (by have hq := hO192; rw [be8_take (by omega)]; simpa [Nat.add_assoc] using hq)⟩ (by omega)
    · -- 22 False
      refine reg_nil ?_
      refine hK183 _ _ ?_
      refine wp_cond_false (ev_hit hN180 rfl) ?_
      refine wp_exit (then_exit (then_exit (blk_hit ?_)))
      refine hK178 _ _ ?_
      refine seq_any fun K195 hK195 => ?_
      refine one_reg ?_
      refine op_move (ev_base hN180 rfl s180_5) ?_
      refine op_assign (ev_hit hN180 rfl) ?_
      refine reg_nil ?_
      refine hK195 _ _ ?_
      refine wp_ret (then_ret ( ?_))
      refine ret1 rfl hd180 (ev_hit hN180 rfl) ⟨_, rfl, ?_⟩
      -- path 13T 22F
      have hi8 : i = 8 := by omega
      subst hi8
      exact ⟨hb, by simpa [keyV, c13, be8_len, List.take_of_length_le, Nat.add_assoc] using hO181⟩
  · -- 13 False
    refine reg_nil ?_
    refine hK165 _ _ ?_
    refine wp_cond_false (ev_hit hN rfl) ?_
    refine wp_skip ?_
    refine hK164 _ _ ?_
    refine seq_any fun K196 hK196 => ?_
    refine one_reg ?_
    refine op_move (ev_hit hN rfl) ?_
    refine op_bslice (e := 5) (pv := [(0, (Value.int .u8 2))]) (cs := [(Value.int .u8 2)]) ⟨rfl, rfl, trivial⟩ (by kernel_rfl) ?_
    intro w197 b198 lo_b198 hi_b198 hB200 E199
    have z_w197 := E199.size
    have hv := hv.keep0 E199
    have hB152 := hB152.keep0 E199
    have hO161 := hO161.keep0 E199
    have hb := below_step0 hb E199 hb.size
    have hP206 := hO161
    refine op_append slt22 (ev_hit hN rfl) hP206 (ev_hit hN rfl) (Src.ofRd Try.underlying22 (by decide) (RdC.ofBx (sz := 1) (n := 1) hB200 rfl (by decide)) (by simp [Value.oneCell', u8v])) (by unfold maxLen; omega) (by omega) hb.size ?_
    intro v201 w202 hO204 E203 hm205
    have z_w202 := E203.size
    have hv := hv.keepO hP206 E203 (by omega)
    have hB152 := hB152.keepO hP206 E203 (by decide)
    have hb := below_stepO hb hP206 E203 hb.size (by omega)
    have hO204 : Own w202 w.heap.size 5 1 v201 ((0 + bl.length) + 1) (((bl ++ [2])).map u8v) := by simpa [u8v] using hO204
    refine op_assign (ev_hit hN rfl) ?_
    refine reg_nil ?_
    refine hK196 _ _ ?_
    refine seq_any fun K207 hK207 => ?_
    refine one_reg ?_
    refine op_move (ev_hit hN rfl) ?_
    refine op_field fld50_2 (ev_hit hN rfl) ?_
    refine op_load1 (v := (Value.string (bs x.s))) one9 (ev_hit hN rfl) (hB152.cell rfl) ?_
    have hP213 := hO204
    refine op_append slt22 (ev_hit hN rfl) hP213 (ev_hit hN rfl) (Src.ofBs Try.underlying9 x.s) (by unfold maxLen; omega) (by omega) hb.size ?_
    intro v208 w209 hO211 E210 hm212
    have z_w209 := E210.size
    have hv := hv.keepO hP213 E210 (by omega)
    have hB152 := hB152.keepO hP213 E210 (by decide)
    have hb := below_stepO hb hP213 E210 hb.size (by omega)
    have hO211 : Own w209 w.heap.size 5 1 v208 (((0 + bl.length) + 1) + x.s.length) ((((bl ++ [2]) ++ x.s)).map u8v) := by simpa [u8v] using hO211
    refine op_bslice (e := 5) (pv := [(0, (Value.int .u8 0))]) (cs := [(Value.int .u8 0)]) ⟨rfl, rfl, trivial⟩ (by kernel_rfl) ?_
    intro w214 b215 lo_b215 hi_b215 hB217 E216
    have z_w214 := E216.size
    have hv := hv.keep0 E216
    have hB152 := hB152.keep0 E216
    have hO211 := hO211.keep0 E216
    have hb := below_step0 hb E216 hb.size
    have hP223 := hO211
    refine op_append slt22 (ev_hit hN rfl) hP223 (ev_hit hN rfl) (Src.ofRd Try.underlying22 (by decide) (RdC.ofBx (sz := 1) (n := 1) hB217 rfl (by decide)) (by simp [Value.oneCell', u8v])) (by unfold maxLen; omega) (by omega) hb.size ?_
    intro v218 w219 hO221 E220 hm222
    have z_w219 := E220.size
    have hv := hv.keepO hP223 E220 (by omega)
    have hB152 := hB152.keepO hP223 E220 (by decide)
    have hb := below_stepO hb hP223 E220 hb.size (by omega)
    have hO221 : Own w219 w.heap.size 5 1 v218 ((((0 + bl.length) + 1) + x.s.length) + 1) (((((bl ++ [2]) ++ x.s) ++ [0])).map u8v) := by simpa [u8v] using hO221
    refine op_assign (ev_hit hN rfl) ?_
    refine reg_nil ?_
    refine hK207 _ _ ?_
    refine wp_ret ?_
    refine ret1 rfl hd (ev_hit hN rfl) ⟨_, rfl, ?_⟩
    -- path 13F
    exact ⟨hb, by simpa [keyV, c13, Nat.add_assoc, Nat.add_comm, Nat.add_left_comm] using hO221⟩

theorem RKey_ret (bl : List UInt8) (x : Vl) (v : Value) (w : World) (hl : bl.length ≤ 1000000000) (hs : x.s.length ≤ 1000000000) (hn : -9223372036854775808 ≤ x.n ∧ x.n ≤ 9223372036854775807) (hv : RdC w 0 w.heap.size 1 v bl.length (bl.map u8v)) : Ret Try.prog 37 #[v, (Value.agg #[(Value.int .i64 x.k), (Value.int .i64 x.n), (Value.string (bs x.s))])] w (fun v' w' => Below w.heap.size w w' ∧ Own w' w.heap.size 5 1 v' (bl.length + (keyR x).length) ((bl ++ keyR x).map u8v)) := by
  have hb := Below.refl w.heap.size w
  refine enter (N := 47) Try.func37 rfl rfl (by simp) fun a0 hN hd hA => ?_
  have s0 : a0.tmps.getD 0 undef = v := hA 0 (by simp)
  have s1 : a0.tmps.getD 1 undef = (Value.agg #[(Value.int .i64 x.k), (Value.int .i64 x.n), (Value.string (bs x.s))]) := hA 1 (by simp)
  clear hA
  refine seq_any fun K224 hK224 => ?_
  refine one_reg ?_
  refine op_box (cs := [(Value.int .i64 x.k), (Value.int .i64 x.n), (Value.string (bs x.s))]) (ev_base hN rfl s1) rfl ?_
  intro w225 b226 lo_b226 hi_b226 hB228 E227
  have z_w225 := E227.size
  have hv := hv.keep0 E227
  have hb := below_step0 hb E227 hb.size
  refine op_assign rfl ?_
  refine reg_nil ?_
  refine hK224 _ _ ?_
  refine seq_any fun K229 hK229 => ?_
  refine one_reg ?_
  refine op_bslice (e := 5) (pv := []) (cs := []) trivial (by kernel_rfl) ?_
  intro w230 b231 lo_b231 hi_b231 hB233 E232
  have z_w230 := E232.size
  have hv := hv.keep0 E232
  have hB228 := hB228.keep0 E232
  have hb := below_step0 hb E232 hb.size
  refine op_move (ev_base hN rfl s0) ?_
  have hP239 := (Own.ofBx (base := w.heap.size) (sz := 1) (n := 0) hB233 rfl (by decide) (by omega))
  refine op_append slt22 (ev_hit hN rfl) hP239 (ev_hit hN rfl) (Src.ofRd Try.underlying22 (by decide) hv (by simp [Value.oneCell', u8v])) (by unfold maxLen; omega) (by omega) hb.size ?_
  intro v234 w235 hO237 E236 hm238
  have z_w235 := E236.size
  have hv := hv.keepO hP239 E236 (by omega)
  have hB228 := hB228.keepO hP239 E236 (by decide)
  have hb := below_stepO hb hP239 E236 hb.size (by omega)
  have hO237 : Own w235 w.heap.size 5 1 v234 (0 + bl.length) ((bl).map u8v) := by simpa [u8v] using hO237
  refine op_assign (ev_hit hN rfl) ?_
  refine reg_nil ?_
  refine hK229 _ _ ?_
  refine seq_any fun K240 hK240 => ?_
  refine seq_any fun K241 hK241 => ?_
  refine one_reg ?_
  refine op_field fld50_0 (ev_hit hN rfl) ?_
  refine op_load1 (v := (Value.int .i64 x.k)) one3 (ev_hit hN rfl) (hB228.cell rfl) ?_
  refine op_eql (ev_hit hN rfl) rfl (fun c13 => ?_) (fun c13 => ?_)
  · -- 13 True
    refine reg_nil ?_
    refine hK241 _ _ ?_
    refine wp_cond_true (ev_hit hN rfl) ?_
    refine seq_any fun K242 hK242 => ?_
    refine one_reg ?_
    refine op_field fld50_1 (ev_hit hN rfl) ?_
    refine op_load1 (v := (Value.int .i64 x.n)) one2 (ev_hit hN rfl) (hB228.cell rfl) ?_
    refine op_conv (r := (upU x.n : Int)) (ev_hit hN rfl) us2 Try.underlying76 (u64_of_i64 hn) ?_
    refine op_assign (ev_hit hN rfl) ?_
    refine reg_nil ?_
    refine hK242 _ _ ?_
    refine seq_any fun K243 hK243 => ?_
    refine one_reg ?_
    refine op_move (ev_hit hN rfl) ?_
    refine op_bslice (e := 5) (pv := [(0, (Value.int .u8 1))]) (cs := [(Value.int .u8 1)]) ⟨rfl, rfl, trivial⟩ (by kernel_rfl) ?_
    intro w244 b245 lo_b245 hi_b245 hB247 E246
    have z_w244 := E246.size
    have hv := hv.keep0 E246
    have hB228 := hB228.keep0 E246
    have hO237 := hO237.keep0 E246
    have hb := below_step0 hb E246 hb.size
    have hP253 := hO237
    refine op_append slt22 (ev_hit hN rfl) hP253 (ev_hit hN rfl) (Src.ofRd Try.underlying22 (by decide) (RdC.ofBx (sz := 1) (n := 1) hB247 rfl (by decide)) (by simp [Value.oneCell', u8v])) (by unfold maxLen; omega) (by omega) hb.size ?_
    intro v248 w249 hO251 E250 hm252
    have z_w249 := E250.size
    have hv := hv.keepO hP253 E250 (by omega)
    have hB228 := hB228.keepO hP253 E250 (by decide)
    have hb := below_stepO hb hP253 E250 hb.size (by omega)
    have hO251 : Own w249 w.heap.size 5 1 v248 ((0 + bl.length) + 1) (((bl ++ [1])).map u8v) := by simpa [u8v] using hO251
    refine op_assign (ev_hit hN rfl) ?_
    refine reg_nil ?_
    refine hK243 _ _ ?_
    refine seq_any fun K254 hK254 => ?_
    refine seq_any fun K255 hK255 => ?_
    refine one_reg ?_
    refine op_assign rfl ?_
    refine reg_nil ?_
    refine hK255 _ _ ?_
    refine wp_block ?_
    refine loop_m (fun m a w' => ∃ (i : Nat) (u : Value), m = 8 - i ∧ (a.tmps.getD 1 undef = (Value.agg #[(Value.int .i64 x.k), (Value.int .i64 x.n), (Value.string (bs x.s))])) ∧ (a.tmps.getD 3 undef = (ptr b226 0)) ∧ (a.tmps.getD 4 undef = (Value.slice none 0 0)) ∧ (a.tmps.getD 5 undef = (Value.int .u64 (upU x.n : Int))) ∧ (a.tmps.getD 8 undef = (Value.slice (some ⟨b231, 0, none⟩) 0 0)) ∧ (a.tmps.getD 9 undef = v) ∧ (a.tmps.getD 10 undef = v234) ∧ (a.tmps.getD 11 undef = (ptr b226 0)) ∧ (a.tmps.getD 12 undef = (Value.int .i64 x.k)) ∧ (a.tmps.getD 13 undef = (Value.bool true)) ∧ (a.tmps.getD 14 undef = (ptr b226 1)) ∧ (a.tmps.getD 15 undef = (Value.int .i64 x.n)) ∧ (a.tmps.getD 16 undef = (Value.int .u64 (upU x.n : Int))) ∧ (a.tmps.getD 17 undef = v234) ∧ (a.tmps.getD 18 undef = (Value.slice (some ⟨b245, 0, none⟩) 1 1)) ∧ (a.tmps.getD 19 undef = v248) ∧ (a.tmps.getD 6 undef = (Value.int .i64 (7 - (i : Int)))) ∧ (a.tmps.getD 0 undef = u) ∧ (i ≤ 8) ∧ (Below w.heap.size w w') ∧ (RdC w' 0 w.heap.size 1 v bl.length (bl.map u8v)) ∧ (Bx w' b226 50 [(Value.int .i64 x.k), (Value.int .i64 x.n), (Value.string (bs x.s))]) ∧ (Own w' w.heap.size 5 1 u (bl.length + 1 + i) (((bl ++ 1 :: (keyU (upU x.n)).take i)).map u8v))) _ hN hd ⟨0, _, rfl, (sl_base hN rfl s1), (sl_hit hN rfl), (sl_hit hN rfl), (sl_hit hN rfl), (sl_hit hN rfl), (sl_hit hN rfl), (sl_hit hN rfl), (sl_hit hN rfl), (sl_hit hN rfl), (sl_hit hN rfl), (sl_hit hN rfl), (sl_hit hN rfl), (sl_hit hN rfl), (sl_hit hN rfl), (sl_hit hN rfl), (sl_hit hN rfl), (sl_hit hN rfl).trans (congrArg (Value.int .i64) (by omega)), (sl_hit hN rfl), Nat.zero_le _, hb, hv, hB228, (by simpa [Nat.add_comm] using hO251)⟩ ?_
    rintro _ a256 w256 hN256 hd256 ⟨i, u, rfl, s256_1, s256_3, s256_4, s256_5, s256_8, s256_9, s256_10, s256_11, s256_12, s256_13, s256_14, s256_15, s256_16, s256_17, s256_18, s256_19, s256_6, s256_0, hi, hb, hv, hB228, hO257⟩
    have z_w256 := hb.size
    refine seq_any fun K258 hK258 => ?_
    refine seq_any fun K259 hK259 => ?_
    refine one_reg ?_
    refine op_move (ev_base hN256 rfl s256_6) ?_
    refine op_geq (ev_hit hN256 rfl) rfl (fun c21 => ?_) (fun c21 => ?_)
    · -- 21 True
      refine reg_nil ?_
      refine hK259 _ _ ?_
      refine wp_cond_true (ev_hit hN256 rfl) ?_
      refine wp_skip ?_
      refine hK258 _ _ ?_
      refine seq_any fun K260 hK260 => ?_
      refine wp_block ?_
      refine seq_any fun K261 hK261 => ?_
      refine one_reg ?_
      refine op_move (ev_base hN256 rfl s256_5) ?_
      refine op_move (ev_base hN256 rfl s256_6) ?_
      refine op_mul rfl (ev_hit hN256 rfl) (mul64 (by omega)) ?_
      refine op_shr (r := (((upU x.n / 2 ^ (56 - 8 * i)) : Nat) : Int)) (ev_hit hN256 rfl) (ev_hit hN256 rfl) (by omega) (shr_nat (j := 56 - 8 * i) (by omega) (by show 56 - 8 * i ≤ 64; omega)) ?_
      refine op_rem (r := (((upU x.n / 2 ^ (56 - 8 * i)) % 256 : Nat) : Int)) (ev_hit hN256 rfl) rfl (by decide) rem_256 ?_
      refine op_conv (r := ((UInt8.ofNat ((upU x.n / 2 ^ (56 - 8 * i)) % 256)).toNat : Int)) (ev_hit hN256 rfl) us76 Try.underlying5 conv_u8 ?_
      refine op_assign (ev_hit hN256 rfl) ?_
      refine reg_nil ?_
      refine hK261 _ _ ?_
      refine seq_any fun K262 hK262 => ?_
      refine seq_any fun K263 hK263 => ?_
      refine one_reg ?_
      refine op_move (ev_base hN256 rfl s256_6) ?_
      refine op_eql (ev_hit hN256 rfl) rfl (fun c31 => ?_) (fun c31 => ?_)
      · -- 31 True
        refine reg_nil ?_
        refine hK263 _ _ ?_
        refine wp_cond_true (ev_hit hN256 rfl) ?_
        refine one_reg ?_
        refine op_move (ev_hit hN256 rfl) ?_
        refine op_xor (r := (((UInt8.ofNat ((upU x.n / 2 ^ (56 - 8 * i)) % 256)) ^^^ 128).toNat : Int)) (ev_hit hN256 rfl) rfl (xor128 _) ?_
        refine op_assign (ev_hit hN256 rfl) ?_
        refine reg_nil ?_
        refine hK262 _ _ ?_
        refine one_reg ?_
        refine op_move (ev_base hN256 rfl s256_0) ?_
        refine op_move (ev_hit hN256 rfl) ?_
        refine op_bslice (e := 5) (pv := [(0, (Value.int .u8 (((UInt8.ofNat ((upU x.n / 2 ^ (56 - 8 * i)) % 256)) ^^^ 128).toNat : Int)))]) (cs := [(Value.int .u8 (((UInt8.ofNat ((upU x.n / 2 ^ (56 - 8 * i)) % 256)) ^^^ 128).toNat : Int))]) ⟨rfl, (ev_hit hN256 rfl), trivial⟩ (by kernel_rfl) ?_
        intro w264 b265 lo_b265 hi_b265 hB267 E266
        have z_w264 := E266.size
        have hv := hv.keep0 E266
        have hB228 := hB228.keep0 E266
        have hO257 := hO257.keep0 E266
        have hb := below_step0 hb E266 hb.size
        have hP273 := hO257
        refine op_append slt22 (ev_hit hN256 rfl) hP273 (ev_hit hN256 rfl) (Src.ofRd Try.underlying22 (by decide) (RdC.ofBx (sz := 1) (n := 1) hB267 rfl (by decide)) (by simp [Value.oneCell', u8v])) (by unfold maxLen; omega) (by omega) hb.size ?_
        intro v268 w269 hO271 E270 hm272
        have z_w269 := E270.size
        have hv := hv.keepO hP273 E270 (by omega)
        have hB228 := hB228.keepO hP273 E270 (by decide)
        have hb := below_stepO hb hP273 E270 hb.size (by omega)
        have hO271 : Own w269 w.heap.size 5 1 v268 ((bl.length + 1 + i) + 1) ((((bl ++ 1 :: (keyU (upU x.n)).take i) ++ [((UInt8.ofNat ((upU x.n / 2 ^ (56 - 8 * i)) % 256)) ^^^ 128)])).map u8v) := by simpa [u8v] using hO271
        refine op_assign (ev_hit hN256 rfl) ?_
        refine reg_nil ?_
        refine hK260 _ _ ?_
        refine one_reg ?_
        refine op_move (ev_base hN256 rfl s256_6) ?_
        refine op_sub (ev_hit hN256 rfl) rfl (sub64 (by omega)) ?_
        refine op_assign (ev_hit hN256 rfl) ?_
        refine reg_nil ?_
        -- round 13T 21T 31T
        exact loop_next _ hN256 hd256 ⟨i + 1, _, rfl, (sl_base hN256 rfl s256_1), (sl_base hN256 rfl s256_3), (sl_base hN256 rfl s256_4), (sl_base hN256 rfl s256_5), (sl_base hN256 rfl s256_8), (sl_base hN256 rfl s256_9), (sl_base hN256 rfl s256_10), (sl_base hN256 rfl s256_11), (sl_base hN256 rfl s256_12), (sl_base hN256 rfl s256_13), (sl_base hN256 rfl s256_14), (sl_base hN256 rfl s256_15), (sl_base hN256 rfl s256_16), (sl_base hN256 rfl s256_17), (sl_base hN256 rfl s256_18), (sl_base hN256 rfl s256_19), (sl_hit hN256 rfl).trans (congrArg (Value.int .i64) (by omega)), (sl_hit hN256 rfl), (by omega), hb, hv, hB228, (by have hq := hO271; rw [keyU_take (by omega)]; simpa [Nat.add_assoc, show i = 0 from by omega] using hq)⟩ (by omega)
      · -- 31 False
        refine reg_nil ?_
        refine hK263 _ _ ?_
        refine wp_cond_false (ev_hit hN256 rfl) ?_
        refine wp_skip ?_
        refine hK262 _ _ ?_
        refine one_reg ?_
        refine op_move (ev_base hN256 rfl s256_0) ?_
        refine op_move (ev_hit hN256 rfl) ?_
        refine op_bslice (e := 5) (pv := [(0, (Value.int .u8 ((UInt8.ofNat ((upU x.n / 2 ^ (56 - 8 * i)) % 256)).toNat : Int)))]) (cs := [(Value.int .u8 ((UInt8.ofNat ((upU x.n / 2 ^ (56 - 8 * i)) % 256)).toNat : Int))]) ⟨rfl, (ev_hit hN256 rfl), trivial⟩ (by kernel_rfl) ?_
        intro w274 b275 lo_b275 hi_b275 hB277 E276
        have z_w274 := E276.size
        have hv := hv.keep0 E276
        have hB228 := hB228.keep0 E276
        have hO257 := hO257.keep0 E276
        have hb := below_step0 hb E276 hb.size
        have hP283 := hO257
        refine op_append slt22 (ev_hit hN256 rfl) hP283 (ev_hit hN256 rfl) (Src.ofRd Try.underlying22 (by decide) (RdC.ofBx (sz := 1) (n := 1) hB277 rfl (by decide)) (by simp [Value.oneCell', u8v])) (by unfold maxLen; omega) (by omega) hb.size ?_
        intro v278 w279 hO281 E280 hm282
        have z_w279 := E280.size
        have hv := hv.keepO hP283 E280 (by omega)
        have hB228 := hB228.keepO hP283 E280 (by decide)
        have hb := below_stepO hb hP283 E280 hb.size (by omega)
        have hO281 : Own w279 w.heap.size 5 1 v278 ((bl.length + 1 + i) + 1) ((((bl ++ 1 :: (keyU (upU x.n)).take i) ++ [(UInt8.ofNat ((upU x.n / 2 ^ (56 - 8 * i)) % 256))])).map u8v) := by simpa [u8v] using hO281
        refine op_assign (ev_hit hN256 rfl) ?_
        refine reg_nil ?_
        refine hK260 _ _ ?_
        refine one_reg ?_
        refine op_move (ev_base hN256 rfl s256_6) ?_
        refine op_sub (ev_hit hN256 rfl) rfl (sub64 (by omega)) ?_
        refine op_assign (ev_hit hN256 rfl) ?_
        refine reg_nil ?_
        -- round 13T 21T 31F
        exact loop_next _ hN256 hd256 ⟨i + 1, _, rfl, (sl_base hN256 rfl s256_1), (sl_base hN256 rfl s256_3), (sl_base hN256 rfl s256_4), (sl_base hN256 rfl s256_5), (sl_base hN256 rfl s256_8), (sl_base hN256 rfl s256_9), (sl_base hN256 rfl s256_10), (sl_base hN256 rfl s256_11), (sl_base hN256 rfl s256_12), (sl_base hN256 rfl s256_13), (sl_base hN256 rfl s256_14), (sl_base hN256 rfl s256_15), (sl_base hN256 rfl s256_16), (sl_base hN256 rfl s256_17), (sl_base hN256 rfl s256_18), (sl_base hN256 rfl s256_19), (sl_hit hN256 rfl).trans (congrArg (Value.int .i64) (by omega)), (sl_hit hN256 rfl), (by omega), hb, hv, hB228, (by have hq := hO281; rw [keyU_take (by omega)]; simpa [Nat.add_assoc, show ¬ i = 0 from by omega] using hq)⟩ (by omega)
    · -- 21 False
      refine reg_nil ?_
      refine hK259 _ _ ?_
      refine wp_cond_false (ev_hit hN256 rfl) ?_
      refine wp_exit (then_exit (then_exit (blk_hit ?_)))
      refine hK254 _ _ ?_
      refine seq_any fun K284 hK284 => ?_
      refine one_reg ?_
      refine op_move (ev_base hN256 rfl s256_0) ?_
      refine op_assign (ev_hit hN256 rfl) ?_
      refine reg_nil ?_
      refine hK284 _ _ ?_
      refine wp_ret (then_ret ( ?_))
      refine ret1 rfl hd256 (ev_hit hN256 rfl) ⟨_, rfl, ?_⟩
      -- path 13T 21F
      have hi8 : i = 8 := by omega
      subst hi8
      exact ⟨hb, by simpa [keyR, c13, keyU_len, List.take_of_length_le, Nat.add_assoc] using hO257⟩
  · -- 13 False
    refine reg_nil ?_
    refine hK241 _ _ ?_
    refine wp_cond_false (ev_hit hN rfl) ?_
    refine wp_skip ?_
    refine hK240 _ _ ?_
    refine seq_any fun K285 hK285 => ?_
    refine reg_chain (Φ := phiC [(fun _ _ u _ => u = v234), (fun _ v u w' => ∃ (b287 : Nat), u = (Value.slice (some ⟨b287, 0, none⟩) 1 1) ∧ w235.heap.size ≤ b287 ∧ Bx w' b287 5 [(Value.int .u8 2)] ∧ v.ownBlock ≠ some b287), chP 0, (fun _ _ u _ => u = (ptr b226 2)), (fun _ _ u _ => u = (Value.string (bs x.s))), chP 1, (fun _ v u w' => ∃ (b303 : Nat), u = (Value.slice (some ⟨b303, 0, none⟩) 1 1) ∧ w235.heap.size ≤ b303 ∧ Bx w' b303 5 [(Value.int .u8 0)] ∧ v.ownBlock ≠ some b303), chP 2, chP 2]) (C := CL [(fun v w' => Own w' w.heap.size 5 1 v (0 + bl.length) ((bl).map u8v)), (fun v w' => Own w' w.heap.size 5 1 v ((0 + bl.length) + 1) (((bl ++ [2])).map u8v)), (fun v w' => Own w' w.heap.size 5 1 v (((0 + bl.length) + 1) + x.s.length) ((((bl ++ [2]) ++ x.s)).map u8v)), (fun v w' => Own w' w.heap.size 5 1 v ((((0 + bl.length) + 1) + x.s.length) + 1) (((((bl ++ [2]) ++ x.s) ++ [0])).map u8v))]) ⟨[2, 5, 7], fun c => [47, 41, 44, 46].getD c 47⟩ v234 mixed (by kernel_rfl) (by kernel_rfl) (by kernel_rfl) (by kernel_rfl) hN (StK.get0 (n := 3) (StK.eq (StK.cons (fun c v u w1 w2 E h => by obtain ⟨x0, hv, l0, f0, q0⟩ := h; exact ⟨x0, hv, l0, f0.keep0 E, q0⟩) (fun c v v' u w1 w2 _ E h => by obtain ⟨x0, hv, l0, f0, q0⟩ := h; exact ⟨x0, hv, l0, f0.keep E.1 (fun hh => q0 hh.symm), ne_step E f0.lt q0⟩) (StK.ch (StK.eq (StK.eq (StK.ch (StK.cons (fun c v u w1 w2 E h => by obtain ⟨x0, hv, l0, f0, q0⟩ := h; exact ⟨x0, hv, l0, f0.keep0 E, q0⟩) (fun c v v' u w1 w2 _ E h => by obtain ⟨x0, hv, l0, f0, q0⟩ := h; exact ⟨x0, hv, l0, f0.keep E.1 (fun hh => q0 hh.symm), ne_step E f0.lt q0⟩) (StK.ch (StK.ch (StK.nil))))))))))) (StK.get1 (n := 3) (StK.eq (StK.cons (fun c v u w1 w2 E h => by obtain ⟨x0, hv, l0, f0, q0⟩ := h; exact ⟨x0, hv, l0, f0.keep0 E, q0⟩) (fun c v v' u w1 w2 _ E h => by obtain ⟨x0, hv, l0, f0, q0⟩ := h; exact ⟨x0, hv, l0, f0.keep E.1 (fun hh => q0 hh.symm), ne_step E f0.lt q0⟩) (StK.ch (StK.eq (StK.eq (StK.ch (StK.cons (fun c v u w1 w2 E h => by obtain ⟨x0, hv, l0, f0, q0⟩ := h; exact ⟨x0, hv, l0, f0.keep0 E, q0⟩) (fun c v v' u w1 w2 _ E h => by obtain ⟨x0, hv, l0, f0, q0⟩ := h; exact ⟨x0, hv, l0, f0.keep E.1 (fun hh => q0 hh.symm), ne_step E f0.lt q0⟩) (StK.ch (StK.ch (StK.nil))))))))))) (StL2.get0 (StL2.own (StL2.own (StL2.own (StL2.own (StL2.nil)))))) (StL2.get1 (StL2.own (StL2.own (StL2.own (StL2.own (StL2.nil)))))) hO237 (ObLn.get (ObLn.cons ?_ (ObLn.cons ?_ (ObLn.pass rfl (ObLn.cons ?_ (ObLn.cons ?_ (ObLn.pass rfl (ObLn.cons ?_ (ObLn.pass rfl (ObLn.cons ?_ (ObLn.nil))))))))))) (ObLc.get (ObLc.cons ?_ (ObLc.cons ?_ (ObLc.cons ?_ (ObLc.nil))))) ?_
    · -- operation 0, slot 39
      intro a286 w286 cc286 cv286 hN286 hcl286 hR286 hlt286 hvo286 hbs286 hdp286
      have hR286 : w235.grownBy w286 v234.ownBlock := hR286
      have hO237_o := hO237
      have q286_0 : a286.tmps.getD 0 undef = v234 := (hbs286 0 rfl).trans (sl_hit hN rfl)
      clear hbs286 hdp286
      refine op_move (ev_base hN286 rfl q286_0) ?_
      exact obNc_end rfl rfl ((grown_refl _ _))
    · -- operation 1, slot 40
      intro a287 w287 cc287 cv287 hN287 hcl287 hR287 hlt287 hvo287 hbs287 hdp287
      have hR287 : w235.grownBy w287 v234.ownBlock := hR287
      have hO237_o := hO237
      have z_w287 := hR287.size
      have hb := below_stepO hb hO237 hR287 hb.size (by omega)
      have hv := hv.keepO hO237 hR287 (by omega)
      have hB228 := hB228.keepO hO237 hR287 (by decide)
      clear hbs287 hdp287
      refine op_bslice (e := 5) (pv := [(0, (Value.int .u8 2))]) (cs := [(Value.int .u8 2)]) ⟨rfl, rfl, trivial⟩ (by kernel_rfl) ?_
      intro w288 b289 lo_b289 hi_b289 hB291 E290
      have z_w288 := E290.size
      have hv := hv.keep0 E290
      have hB228 := hB228.keep0 E290
      have hb := below_step0 hb E290 hb.size
      exact obNc_end rfl ⟨b289, rfl, (by omega), hB291, (fun hh => by have := hlt287 _ hh; omega)⟩ (E290)
    · -- operation 3, slot 42
      intro a292 w292 cc292 cv292 hN292 hcl292 hR292 hlt292 hvo292 hbs292 hdp292
      have hR292 : w235.grownBy w292 v234.ownBlock := hR292
      have hO237_o := hO237
      have q292_3 : a292.tmps.getD 3 undef = (ptr b226 0) := (hbs292 3 rfl).trans (sl_hit hN rfl)
      clear hbs292 hdp292
      refine op_field fld50_2 (ev_base hN292 rfl q292_3) ?_
      exact obNc_end rfl rfl ((grown_refl _ _))
    · -- operation 4, slot 43
      intro a293 w293 cc293 cv293 hN293 hcl293 hR293 hlt293 hvo293 hbs293 hdp293
      have hR293 : w235.grownBy w293 v234.ownBlock := hR293
      have hO237_o := hO237
      have z_w293 := hR293.size
      have hb := below_stepO hb hO237 hR293 hb.size (by omega)
      have hv := hv.keepO hO237 hR293 (by omega)
      have hB228 := hB228.keepO hO237 hR293 (by decide)
      have q293_42 : a293.tmps.getD 42 undef = (ptr b226 2) := hdp293 3 _ 42 (by kernel_rfl) rfl rfl
      clear hbs293 hdp293
      refine op_load1 (v := (Value.string (bs x.s))) one9 (ev_base hN293 rfl q293_42) (hB228.cell rfl) ?_
      exact obNc_end rfl rfl ((grown_refl _ _))
    · -- operation 6, slot 45
      intro a294 w294 cc294 cv294 hN294 hcl294 hR294 hlt294 hvo294 hbs294 hdp294
      have hR294 : w235.grownBy w294 v234.ownBlock := hR294
      have hO237_o := hO237
      have z_w294 := hR294.size
      have hb := below_stepO hb hO237 hR294 hb.size (by omega)
      have hv := hv.keepO hO237 hR294 (by omega)
      have hB228 := hB228.keepO hO237 hR294 (by decide)
      clear hbs294 hdp294
      refine op_bslice (e := 5) (pv := [(0, (Value.int .u8 0))]) (cs := [(Value.int .u8 0)]) ⟨rfl, rfl, trivial⟩ (by kernel_rfl) ?_
      intro w295 b296 lo_b296 hi_b296 hB298 E297
      have z_w295 := E297.size
      have hv := hv.keep0 E297
      have hB228 := hB228.keep0 E297
      have hb := below_step0 hb E297 hb.size
      exact obNc_end rfl ⟨b296, rfl, (by omega), hB298, (fun hh => by have := hlt294 _ hh; omega)⟩ (E297)
    · -- operation 8, slot 4
      intro a299 w299 cc299 cv299 hN299 hcl299 hR299 hlt299 hvo299 hbs299 hdp299
      have hR299 : w235.grownBy w299 v234.ownBlock := hR299
      have hO237_o := hO237
      have hch299 : chP 2 cc299 cv299 (a299.tmps.getD 46 undef) w299 := hdp299 7 _ 46 (by kernel_rfl) rfl rfl
      have hcc299 : cc299 = 3 := Nat.le_antisymm hcl299 hch299.1
      have q299_46 := hch299.2 hcc299
      clear hbs299 hdp299
      refine op_assign (ev_base hN299 rfl q299_46) ?_
      exact obNc_end rfl ⟨by omega, fun _ => rfl⟩ ((grown_refl _ _))
    · -- operation 2, slot 41
      intro o_ ho_; obtain rfl := Option.some.inj ho_; intro a300 w300 cv300 hN300 hR300 hcv0300 hbs300 hdp300 hC300
      have hR300 : w235.grownBy w300 v234.ownBlock := hR300
      have hO237_o := hO237
      have z_w300 := hR300.size
      have hb := below_stepO hb hO237 hR300 hb.size (by omega)
      have hv := hv.keepO hO237 hR300 (by omega)
      have hB228 := hB228.keepO hO237 hR300 (by decide)
      have hcv300 : v234 = cv300 := (hcv0300 rfl).symm
      subst hcv300
      have hC300 : Own w300 w.heap.size 5 1 v234 (0 + bl.length) ((bl).map u8v) := hC300
      have q300_39 : a300.tmps.getD 39 undef = v234 := hdp300 0 _ 39 (by kernel_rfl) rfl rfl
      obtain ⟨b287, q300_40, _, hB289, xq300_40_0⟩ := hdp300 1 _ 40 (by kernel_rfl) rfl rfl
      have hB289 : Bx w300 b287 5 [(Value.int .u8 2)] := hB289
      clear hbs300 hdp300
      have hP306 := hC300
      refine op_append slt22 (ev_base hN300 rfl q300_39) hP306 (ev_base hN300 rfl q300_40) (Src.ofRd Try.underlying22 (by decide) (RdC.ofBx (sz := 1) (n := 1) hB289 rfl (by decide)) (by simp [Value.oneCell', u8v])) (by unfold maxLen; omega) (by omega) hb.size ?_
      intro v301 w302 hO304 E303 hm305
      have z_w302 := E303.size
      have hv := hv.keepO hP306 E303 (by omega)
      have hB228 := hB228.keepO hP306 E303 (by decide)
      have hB289 := hB289.keep E303 (fun hh => xq300_40_0 hh.symm)
      have hb := below_stepO hb hP306 E303 hb.size (by omega)
      have hO304 : Own w302 w.heap.size 5 1 v301 ((0 + bl.length) + 1) (((bl ++ [2])).map u8v) := by simpa [u8v] using hO304
      exact obCc_end rfl rfl (chP_now (w := w302)) hO304 ⟨E303, hm305⟩
    · -- operation 5, slot 44
      intro o_ ho_; obtain rfl := Option.some.inj ho_; intro a307 w307 cv307 hN307 hR307 hcv0307 hbs307 hdp307 hC307
      have hR307 : w235.grownBy w307 v234.ownBlock := hR307
      have hO237_o := hO237
      have z_w307 := hR307.size
      have hb := below_stepO hb hO237 hR307 hb.size (by omega)
      have hv := hv.keepO hO237 hR307 (by omega)
      have hB228 := hB228.keepO hO237 hR307 (by decide)
      have hC307 : Own w307 w.heap.size 5 1 cv307 ((0 + bl.length) + 1) (((bl ++ [2])).map u8v) := hC307
      have q307_41 : a307.tmps.getD 41 undef = cv307 := (show chP 0 1 cv307 (a307.tmps.getD 41 undef) w307 from hdp307 2 _ 41 (by kernel_rfl) rfl rfl).2 rfl
      have q307_43 : a307.tmps.getD 43 undef = (Value.string (bs x.s)) := hdp307 4 _ 43 (by kernel_rfl) rfl rfl
      clear hbs307 hdp307
      have hP313 := hC307
      refine op_append slt22 (ev_base hN307 rfl q307_41) hP313 (ev_base hN307 rfl q307_43) (Src.ofBs Try.underlying9 x.s) (by unfold maxLen; omega) (by omega) hb.size ?_
      intro v308 w309 hO311 E310 hm312
      have z_w309 := E310.size
      have hv := hv.keepO hP313 E310 (by omega)
      have hB228 := hB228.keepO hP313 E310 (by decide)
      have hb := below_stepO hb hP313 E310 hb.size (by omega)
      have hO311 : Own w309 w.heap.size 5 1 v308 (((0 + bl.length) + 1) + x.s.length) ((((bl ++ [2]) ++ x.s)).map u8v) := by simpa [u8v] using hO311
      exact obCc_end rfl rfl (chP_now (w := w309)) hO311 ⟨E310, hm312⟩
    · -- operation 7, slot 46
      intro o_ ho_; obtain rfl := Option.some.inj ho_; intro a314 w314 cv314 hN314 hR314 hcv0314 hbs314 hdp314 hC314
      have hR314 : w235.grownBy w314 v234.ownBlock := hR314
      have hO237_o := hO237
      have z_w314 := hR314.size
      have hb := below_stepO hb hO237 hR314 hb.size (by omega)
      have hv := hv.keepO hO237 hR314 (by omega)
      have hB228 := hB228.keepO hO237 hR314 (by decide)
      have hC314 : Own w314 w.heap.size 5 1 cv314 (((0 + bl.length) + 1) + x.s.length) ((((bl ++ [2]) ++ x.s)).map u8v) := hC314
      have q314_44 : a314.tmps.getD 44 undef = cv314 := (show chP 1 2 cv314 (a314.tmps.getD 44 undef) w314 from hdp314 5 _ 44 (by kernel_rfl) rfl rfl).2 rfl
      obtain ⟨b303, q314_45, _, hB305, xq314_45_0⟩ := hdp314 6 _ 45 (by kernel_rfl) rfl rfl
      have hB305 : Bx w314 b303 5 [(Value.int .u8 0)] := hB305
      clear hbs314 hdp314
      have hP320 := hC314
      refine op_append slt22 (ev_base hN314 rfl q314_44) hP320 (ev_base hN314 rfl q314_45) (Src.ofRd Try.underlying22 (by decide) (RdC.ofBx (sz := 1) (n := 1) hB305 rfl (by decide)) (by simp [Value.oneCell', u8v])) (by unfold maxLen; omega) (by omega) hb.size ?_
      intro v315 w316 hO318 E317 hm319
      have z_w316 := E317.size
      have hv := hv.keepO hP320 E317 (by omega)
      have hB228 := hB228.keepO hP320 E317 (by decide)
      have hB305 := hB305.keep E317 (fun hh => xq314_45_0 hh.symm)
      have hb := below_stepO hb hP320 E317 hb.size (by omega)
      have hO318 : Own w316 w.heap.size 5 1 v315 ((((0 + bl.length) + 1) + x.s.length) + 1) (((((bl ++ [2]) ++ x.s) ++ [0])).map u8v) := by simpa [u8v] using hO318
      exact obCc_end rfl rfl (chP_now (w := w316)) hO318 ⟨E317, hm319⟩
    · -- behind the region
      intro a321 w321 v306 hN321 hd321 hbs321 hph321 hC321 E321 hm321
      have hd321 := hd321.trans hd
      have s321_0 : a321.tmps.getD 0 undef = v234 := (hbs321 0 rfl).trans (sl_hit hN rfl)
      have s321_1 : a321.tmps.getD 1 undef = (Value.agg #[(Value.int .i64 x.k), (Value.int .i64 x.n), (Value.string (bs x.s))]) := (hbs321 1 rfl).trans (sl_base hN rfl s1)
      have s321_3 : a321.tmps.getD 3 undef = (ptr b226 0) := (hbs321 3 rfl).trans (sl_hit hN rfl)
      have s321_4 : a321.tmps.getD 4 undef = v306 := (show chP 2 3 v306 (a321.tmps.getD 4 undef) w321 from hph321 8 _ 4 rfl rfl).2 rfl
      have s321_8 : a321.tmps.getD 8 undef = (Value.slice (some ⟨b231, 0, none⟩) 0 0) := (hbs321 8 rfl).trans (sl_hit hN rfl)
      have s321_9 : a321.tmps.getD 9 undef = v := (hbs321 9 rfl).trans (sl_hit hN rfl)
      have s321_10 : a321.tmps.getD 10 undef = v234 := (hbs321 10 rfl).trans (sl_hit hN rfl)
      have s321_11 : a321.tmps.getD 11 undef = (ptr b226 0) := (hbs321 11 rfl).trans (sl_hit hN rfl)
      have s321_12 : a321.tmps.getD 12 undef = (Value.int .i64 x.k) := (hbs321 12 rfl).trans (sl_hit hN rfl)
      have s321_13 : a321.tmps.getD 13 undef = (Value.bool false) := (hbs321 13 rfl).trans (sl_hit hN rfl)
      have s321_39 : a321.tmps.getD 39 undef = v234 := hph321 0 _ 39 rfl rfl
      obtain ⟨b287, s321_40, l321_0, hB289, xq321_40_0⟩ := hph321 1 _ 40 rfl rfl
      have hB289 : Bx w321 b287 5 [(Value.int .u8 2)] := hB289
      have s321_42 : a321.tmps.getD 42 undef = (ptr b226 2) := hph321 3 _ 42 rfl rfl
      have s321_43 : a321.tmps.getD 43 undef = (Value.string (bs x.s)) := hph321 4 _ 43 rfl rfl
      obtain ⟨b303, s321_45, l321_0, hB305, xq321_45_0⟩ := hph321 6 _ 45 rfl rfl
      have hB305 : Bx w321 b303 5 [(Value.int .u8 0)] := hB305
      have s321_46 : a321.tmps.getD 46 undef = v306 := (show chP 2 3 v306 (a321.tmps.getD 46 undef) w321 from hph321 7 _ 46 rfl rfl).2 rfl
      clear hbs321 hph321
      have E321 : w235.grownBy w321 v234.ownBlock := E321
      have hC321 : Own w321 w.heap.size 5 1 v306 ((((0 + bl.length) + 1) + x.s.length) + 1) (((((bl ++ [2]) ++ x.s) ++ [0])).map u8v) := hC321
      have z_w321 := E321.size
      have hv := hv.keepO hO237 E321 (by omega)
      have hB228 := hB228.keepO hO237 E321 (by decide)
      have hb := below_stepO hb hO237 E321 hb.size (by omega)
      refine hK285 _ _ ?_
      refine wp_ret ?_
      refine ret1 rfl hd321 (ev_base hN321 rfl s321_4) ⟨_, rfl, ?_⟩
      -- path 13F
      exact ⟨hb, by simpa [keyR, c13, Nat.add_assoc, Nat.add_comm, Nat.add_left_comm] using hC321⟩

end Go.Proofs.Ytkkongnmcfdioaa
