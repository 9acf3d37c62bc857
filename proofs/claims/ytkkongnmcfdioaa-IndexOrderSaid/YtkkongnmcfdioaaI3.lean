/- Walks, written by a program: what each function of the translation hands back. -/
import Derived.Test.YtkkongnmcfdioaaI2
namespace Go.Proofs.Ytkkongnmcfdioaa
open Go.Gx Go.RowKit
attribute [local irreducible] wpList Code.wp Calls

theorem labPut_ret (bl : List UInt8) (l : Lb) (v u : Value) (w : World) (hbl : bl.length ≤ 1000000000) (hl : l.length ≤ 1000000000) (hv : RdC w 0 w.heap.size 1 v bl.length (bl.map u8v)) (h : RdC w 0 w.heap.size 1 u l.length (l.map u16v)) : Ret Try.prog 78 #[v, u] w (fun v' w' => Below w.heap.size w w' ∧ Own w' w.heap.size 5 1 v' (bl.length + (putL l).length) ((bl ++ putL l).map u8v)) := by
  have hb := Below.refl w.heap.size w
  refine enter (N := 32) Try.func78 rfl rfl (by simp) fun a0 hN hd hA => ?_
  have s0 : a0.tmps.getD 0 undef = v := hA 0 (by simp)
  have s1 : a0.tmps.getD 1 undef = u := hA 1 (by simp)
  clear hA
  refine seq_any fun K118 hK118 => ?_
  refine one_reg ?_
  refine op_assign rfl ?_
  refine reg_nil ?_
  refine hK118 _ _ ?_
  refine seq_any fun K119 hK119 => ?_
  refine one_reg ?_
  refine op_bslice (e := 5) (pv := []) (cs := []) trivial (by kernel_rfl) ?_
  intro w120 b121 lo_b121 hi_b121 hB123 E122
  have z_w120 := E122.size
  have hv := hv.keep0 E122
  have h := h.keep0 E122
  have hb := below_step0 hb E122 hb.size
  refine op_move (ev_base hN rfl s0) ?_
  have hP129 := (Own.ofBx (base := w.heap.size) (sz := 1) (n := 0) hB123 rfl (by decide) (by omega))
  refine op_append slt22 (ev_hit hN rfl) hP129 (ev_hit hN rfl) (Src.ofRd Try.underlying22 (by decide) hv (by simp [Value.oneCell', u8v])) (by unfold maxLen; omega) (by omega) hb.size ?_
  intro v124 w125 hO127 E126 hm128
  have z_w125 := E126.size
  have hv := hv.keepO hP129 E126 (by omega)
  have h := h.keepO hP129 E126 (by omega)
  have hb := below_stepO hb hP129 E126 hb.size (by omega)
  have hO127 : Own w125 w.heap.size 5 1 v124 (0 + bl.length) ((bl).map u8v) := by simpa [u8v, u16v, cellsV] using hO127
  refine op_move (ev_base hN rfl s1) ?_
  refine op_len_rd Try.underlying75 (ev_hit hN rfl) h ?_
  refine op_conv (r := ((UInt8.ofNat l.length).toNat : Int)) (ev_hit hN rfl) us3 Try.underlying5 conv_u8 ?_
  refine op_bslice (e := 5) (pv := [(0, (Value.int .u8 ((UInt8.ofNat l.length).toNat : Int)))]) (cs := [(Value.int .u8 ((UInt8.ofNat l.length).toNat : Int))]) ⟨rfl, (ev_hit hN rfl), trivial⟩ (by kernel_rfl) ?_
  intro w130 b131 lo_b131 hi_b131 hB133 E132
  have ne_b131_v124 : v124.ownBlock ≠ some b131 := fun hh => by have := (hO127.lt _ hh).2; omega
  have z_w130 := E132.size
  have hv := hv.keep0 E132
  have h := h.keep0 E132
  have hO127 := hO127.keep0 E132
  have hb := below_step0 hb E132 hb.size
  have hP139 := hO127
  refine op_append slt22 (ev_hit hN rfl) hP139 (ev_hit hN rfl) (Src.ofRd Try.underlying22 (by decide) (RdC.ofBx (sz := 1) (n := 1) hB133 rfl (by decide)) (by simp [Value.oneCell', u8v])) (by unfold maxLen; omega) (by omega) hb.size ?_
  intro v134 w135 hO137 E136 hm138
  have z_w135 := E136.size
  have hv := hv.keepO hP139 E136 (by omega)
  have h := h.keepO hP139 E136 (by omega)
  have hB133 := hB133.keep E136 (fun hh => ne_b131_v124 hh.symm)
  have hb := below_stepO hb hP139 E136 hb.size (by omega)
  have hO137 : Own w135 w.heap.size 5 1 v134 ((0 + bl.length) + 1) (((bl ++ [(UInt8.ofNat l.length)])).map u8v) := by simpa [u8v, u16v, cellsV] using hO137
  have ne_b131_v134 : v134.ownBlock ≠ some b131 := ne_step (w1 := w130) ⟨E136, hm138⟩ (by omega) ne_b131_v124
  refine op_assign (ev_hit hN rfl) ?_
  refine reg_nil ?_
  refine hK119 _ _ ?_
  refine seq_any fun K140 hK140 => ?_
  refine seq_any fun K141 hK141 => ?_
  refine one_reg ?_
  refine op_move (ev_base hN rfl s1) ?_
  refine op_len_rd Try.underlying75 (ev_hit hN rfl) h ?_
  refine op_move rfl ?_
  refine reg_nil ?_
  refine hK141 _ _ ?_
  refine wp_block ?_
  refine loop_m (fun mz_ a w' => ∃ (i : Nat) (y : Value), mz_ = l.length - i ∧ (a.tmps.getD 0 undef = v) ∧ (a.tmps.getD 1 undef = u) ∧ (a.tmps.getD 4 undef = (Value.slice none 0 0)) ∧ (a.tmps.getD 8 undef = (Value.slice (some ⟨b121, 0, none⟩) 0 0)) ∧ (a.tmps.getD 9 undef = v) ∧ (a.tmps.getD 10 undef = v124) ∧ (a.tmps.getD 11 undef = u) ∧ (a.tmps.getD 12 undef = (Value.int .i64 ((l.length : Nat) : Int))) ∧ (a.tmps.getD 13 undef = (Value.int .u8 ((UInt8.ofNat l.length).toNat : Int))) ∧ (a.tmps.getD 14 undef = (Value.slice (some ⟨b131, 0, none⟩) 1 1)) ∧ (a.tmps.getD 15 undef = v134) ∧ (a.tmps.getD 16 undef = u) ∧ (a.tmps.getD 17 undef = (Value.int .i64 ((l.length : Nat) : Int))) ∧ (a.tmps.getD 18 undef = (Value.int .i64 ((i : Nat) : Int))) ∧ (a.tmps.getD 5 undef = y) ∧ (i ≤ l.length) ∧ (Below w.heap.size w w') ∧ (RdC w' 0 w.heap.size 1 v bl.length (bl.map u8v)) ∧ (RdC w' 0 w.heap.size 1 u l.length (l.map u16v)) ∧ (Own w' w.heap.size 5 1 y (bl.length + 1 + 2 * i) ((bl ++ UInt8.ofNat l.length :: (l.take i).flatMap be2).map u8v))) _ hN hd ⟨0, _, rfl, (sl_base hN rfl s0), (sl_base hN rfl s1), (sl_hit hN rfl), (sl_hit hN rfl), (sl_hit hN rfl), (sl_hit hN rfl), (sl_hit hN rfl), (sl_hit hN rfl), (sl_hit hN rfl), (sl_hit hN rfl), (sl_hit hN rfl), (sl_hit hN rfl), (sl_hit hN rfl), (sl_hit hN rfl), (sl_hit hN rfl), Nat.zero_le _, hb, hv, h, (hO137.cast (by first | omega | (simp; try omega)) (by simp))⟩ ?_
  rintro _ a142 w142 hN142 hd142 ⟨i, y, rfl, s142_0, s142_1, s142_4, s142_8, s142_9, s142_10, s142_11, s142_12, s142_13, s142_14, s142_15, s142_16, s142_17, s142_18, s142_5, hi, hb, hv, h, hO143⟩
  have z_w142 := hb.size
  refine seq_any fun K144 hK144 => ?_
  refine one_reg ?_
  refine op_lss (ev_base hN142 rfl s142_18) (ev_base hN142 rfl s142_17) (fun c19 => ?_) (fun c19 => ?_)
  · -- 19 True
    refine reg_nil ?_
    refine hK144 _ _ ?_
    refine seq_any fun K145 hK145 => ?_
    refine wp_cond_true (ev_hit hN142 rfl) ?_
    refine wp_skip ?_
    refine hK145 _ _ ?_
    refine seq_any fun K146 hK146 => ?_
    refine wp_block ?_
    refine seq_any fun K147 hK147 => ?_
    refine one_reg ?_
    refine op_index_rd slt75 (ev_base hN142 rfl s142_16) h (ev_base hN142 rfl s142_18) (by omega) (by omega) ?_
    intro b148 o149 h0b148 h1b148 hc150
    refine op_load1 (v := (Value.int .u16 ((l.getD i 0).toNat : Int))) one46 (ev_hit hN142 rfl) (by have := hc150 0 (Value.int .u16 ((l.getD i 0).toNat : Int)) (by decide) (el_u16 (i := i) (by omega) (by omega)); simpa using this) ?_
    refine op_assign (ev_hit hN142 rfl) ?_
    refine reg_nil ?_
    refine hK147 _ _ ?_
    refine one_reg ?_
    refine op_move (ev_base hN142 rfl s142_5) ?_
    refine op_move (ev_hit hN142 rfl) ?_
    refine op_shr (r := (((l.getD i 0).toNat / 256 : Nat) : Int)) (ev_hit hN142 rfl) rfl (by decide) shr16 ?_
    refine op_conv (r := ((UInt8.ofNat ((l.getD i 0).toNat / 256)).toNat : Int)) (ev_hit hN142 rfl) us46 Try.underlying5 conv_u8 ?_
    refine op_move (ev_hit hN142 rfl) ?_
    refine op_conv (r := ((UInt8.ofNat (l.getD i 0).toNat).toNat : Int)) (ev_hit hN142 rfl) us46 Try.underlying5 conv_u8 ?_
    refine op_bslice (e := 5) (pv := [(0, (Value.int .u8 ((UInt8.ofNat ((l.getD i 0).toNat / 256)).toNat : Int))), (1, (Value.int .u8 ((UInt8.ofNat (l.getD i 0).toNat).toNat : Int)))]) (cs := [(Value.int .u8 ((UInt8.ofNat ((l.getD i 0).toNat / 256)).toNat : Int)), (Value.int .u8 ((UInt8.ofNat (l.getD i 0).toNat).toNat : Int))]) ⟨rfl, (ev_hit hN142 rfl), ⟨rfl, (ev_hit hN142 rfl), trivial⟩⟩ (by kernel_rfl) ?_
    intro w151 b152 lo_b152 hi_b152 hB154 E153
    have ne_b152_y : y.ownBlock ≠ some b152 := fun hh => by have := (hO143.lt _ hh).2; omega
    have z_w151 := E153.size
    have hv := hv.keep0 E153
    have h := h.keep0 E153
    have hO143 := hO143.keep0 E153
    have hb := below_step0 hb E153 hb.size
    have hP160 := hO143
    refine op_append slt22 (ev_hit hN142 rfl) hP160 (ev_hit hN142 rfl) (Src.ofRd Try.underlying22 (by decide) (RdC.ofBx (sz := 1) (n := 2) hB154 rfl (by decide)) (by simp [Value.oneCell', u8v])) (by unfold maxLen; omega) (by omega) hb.size ?_
    intro v155 w156 hO158 E157 hm159
    have z_w156 := E157.size
    have hv := hv.keepO hP160 E157 (by omega)
    have h := h.keepO hP160 E157 (by omega)
    have hB154 := hB154.keep E157 (fun hh => ne_b152_y hh.symm)
    have hb := below_stepO hb hP160 E157 hb.size (by omega)
    have hO158 : Own w156 w.heap.size 5 1 v155 ((bl.length + 1 + 2 * i) + 2) ((((bl ++ UInt8.ofNat l.length :: (l.take i).flatMap be2) ++ [(UInt8.ofNat ((l.getD i 0).toNat / 256)), (UInt8.ofNat (l.getD i 0).toNat)])).map u8v) := by simpa [u8v, u16v, cellsV] using hO158
    have ne_b152_v155 : v155.ownBlock ≠ some b152 := ne_step (w1 := w151) ⟨E157, hm159⟩ (by omega) ne_b152_y
    refine op_assign (ev_hit hN142 rfl) ?_
    refine reg_nil ?_
    refine hK146 _ _ ?_
    refine one_reg ?_
    refine op_add (ev_base hN142 rfl s142_18) rfl (add64 (by omega)) ?_
    refine op_move (ev_hit hN142 rfl) ?_
    refine reg_nil ?_
    -- round 19T
    exact loop_next _ hN142 hd142 ⟨i + 1, _, rfl, (sl_base hN142 rfl s142_0), (sl_base hN142 rfl s142_1), (sl_base hN142 rfl s142_4), (sl_base hN142 rfl s142_8), (sl_base hN142 rfl s142_9), (sl_base hN142 rfl s142_10), (sl_base hN142 rfl s142_11), (sl_base hN142 rfl s142_12), (sl_base hN142 rfl s142_13), (sl_base hN142 rfl s142_14), (sl_base hN142 rfl s142_15), (sl_base hN142 rfl s142_16), (sl_base hN142 rfl s142_17), (sl_hit hN142 rfl).trans (congrArg (Value.int .i64) (by omega)), (sl_hit hN142 rfl), (by omega), hb, hv, h, (hO158.cast (by first | omega | (simp; try omega)) (by rw [snoc (d := 0) (l := l) (i := i) (by omega), List.flatMap_append]; simp [be2]))⟩ (by omega)
  · -- 19 False
    refine reg_nil ?_
    refine hK144 _ _ ?_
    refine seq_any fun K161 hK161 => ?_
    refine wp_cond_false (ev_hit hN142 rfl) ?_
    refine wp_exit (then_exit (then_exit (blk_hit ?_)))
    refine hK140 _ _ ?_
    refine seq_any fun K162 hK162 => ?_
    refine one_reg ?_
    refine op_move (ev_base hN142 rfl s142_5) ?_
    refine op_assign (ev_hit hN142 rfl) ?_
    refine reg_nil ?_
    refine hK162 _ _ ?_
    refine wp_ret ?_
    refine ret1 rfl hd142 (ev_hit hN142 rfl) ⟨_, rfl, ?_⟩
    -- path 19F
    have ei : l.take i = l := List.take_of_length_le (by omega)
    have hq := hO143
    rw [ei] at hq
    exact ⟨hb, hq.cast (by rw [putL_len]; omega) (by rw [putL])⟩

theorem refPut_ret (bl : List UInt8) (l : Lb) (v u : Value) (w : World) (hbl : bl.length ≤ 1000000000) (hl : l.length ≤ 1000000000) (hv : RdC w 0 w.heap.size 1 v bl.length (bl.map u8v)) (h : RdC w 0 w.heap.size 1 u l.length (l.map u16v)) : Ret Try.prog 80 #[v, u] w (fun v' w' => Below w.heap.size w w' ∧ Own w' w.heap.size 5 1 v' (bl.length + (putL l).length) ((bl ++ putL l).map u8v)) := by
  have hb := Below.refl w.heap.size w
  refine enter (N := 36) Try.func80 rfl rfl (by simp) fun a0 hN hd hA => ?_
  have s0 : a0.tmps.getD 0 undef = v := hA 0 (by simp)
  have s1 : a0.tmps.getD 1 undef = u := hA 1 (by simp)
  clear hA
  refine seq_any fun K163 hK163 => ?_
  refine one_reg ?_
  refine op_assign rfl ?_
  refine reg_nil ?_
  refine hK163 _ _ ?_
  refine seq_any fun K164 hK164 => ?_
  refine one_reg ?_
  refine op_bslice (e := 5) (pv := []) (cs := []) trivial (by kernel_rfl) ?_
  intro w165 b166 lo_b166 hi_b166 hB168 E167
  have z_w165 := E167.size
  have hv := hv.keep0 E167
  have h := h.keep0 E167
  have hb := below_step0 hb E167 hb.size
  refine op_move (ev_base hN rfl s0) ?_
  have hP174 := (Own.ofBx (base := w.heap.size) (sz := 1) (n := 0) hB168 rfl (by decide) (by omega))
  refine op_append slt22 (ev_hit hN rfl) hP174 (ev_hit hN rfl) (Src.ofRd Try.underlying22 (by decide) hv (by simp [Value.oneCell', u8v])) (by unfold maxLen; omega) (by omega) hb.size ?_
  intro v169 w170 hO172 E171 hm173
  have z_w170 := E171.size
  have hv := hv.keepO hP174 E171 (by omega)
  have h := h.keepO hP174 E171 (by omega)
  have hb := below_stepO hb hP174 E171 hb.size (by omega)
  have hO172 : Own w170 w.heap.size 5 1 v169 (0 + bl.length) ((bl).map u8v) := by simpa [u8v, u16v, cellsV] using hO172
  refine op_move (ev_base hN rfl s1) ?_
  refine op_len_rd Try.underlying75 (ev_hit hN rfl) h ?_
  refine op_conv (r := ((UInt8.ofNat l.length).toNat : Int)) (ev_hit hN rfl) us3 Try.underlying5 conv_u8 ?_
  refine op_bslice (e := 5) (pv := [(0, (Value.int .u8 ((UInt8.ofNat l.length).toNat : Int)))]) (cs := [(Value.int .u8 ((UInt8.ofNat l.length).toNat : Int))]) ⟨rfl, (ev_hit hN rfl), trivial⟩ (by kernel_rfl) ?_
  intro w175 b176 lo_b176 hi_b176 hB178 E177
  have ne_b176_v169 : v169.ownBlock ≠ some b176 := fun hh => by have := (hO172.lt _ hh).2; omega
  have z_w175 := E177.size
  have hv := hv.keep0 E177
  have h := h.keep0 E177
  have hO172 := hO172.keep0 E177
  have hb := below_step0 hb E177 hb.size
  have hP184 := hO172
  refine op_append slt22 (ev_hit hN rfl) hP184 (ev_hit hN rfl) (Src.ofRd Try.underlying22 (by decide) (RdC.ofBx (sz := 1) (n := 1) hB178 rfl (by decide)) (by simp [Value.oneCell', u8v])) (by unfold maxLen; omega) (by omega) hb.size ?_
  intro v179 w180 hO182 E181 hm183
  have z_w180 := E181.size
  have hv := hv.keepO hP184 E181 (by omega)
  have h := h.keepO hP184 E181 (by omega)
  have hB178 := hB178.keep E181 (fun hh => ne_b176_v169 hh.symm)
  have hb := below_stepO hb hP184 E181 hb.size (by omega)
  have hO182 : Own w180 w.heap.size 5 1 v179 ((0 + bl.length) + 1) (((bl ++ [(UInt8.ofNat l.length)])).map u8v) := by simpa [u8v, u16v, cellsV] using hO182
  have ne_b176_v179 : v179.ownBlock ≠ some b176 := ne_step (w1 := w175) ⟨E181, hm183⟩ (by omega) ne_b176_v169
  refine op_assign (ev_hit hN rfl) ?_
  refine reg_nil ?_
  refine hK164 _ _ ?_
  refine seq_any fun K185 hK185 => ?_
  refine seq_any fun K186 hK186 => ?_
  refine one_reg ?_
  refine op_assign rfl ?_
  refine reg_nil ?_
  refine hK186 _ _ ?_
  refine wp_block ?_
  refine loop_m (fun mz_ a w' => ∃ (i : Nat) (y : Value), mz_ = l.length - i ∧ (a.tmps.getD 1 undef = u) ∧ (a.tmps.getD 4 undef = (Value.slice none 0 0)) ∧ (a.tmps.getD 6 undef = (Value.slice (some ⟨b166, 0, none⟩) 0 0)) ∧ (a.tmps.getD 7 undef = v) ∧ (a.tmps.getD 8 undef = v169) ∧ (a.tmps.getD 9 undef = u) ∧ (a.tmps.getD 10 undef = (Value.int .i64 ((l.length : Nat) : Int))) ∧ (a.tmps.getD 11 undef = (Value.int .u8 ((UInt8.ofNat l.length).toNat : Int))) ∧ (a.tmps.getD 12 undef = (Value.slice (some ⟨b176, 0, none⟩) 1 1)) ∧ (a.tmps.getD 13 undef = v179) ∧ (a.tmps.getD 5 undef = (Value.int .i64 ((i : Nat) : Int))) ∧ (a.tmps.getD 0 undef = y) ∧ (i ≤ l.length) ∧ (Below w.heap.size w w') ∧ (RdC w' 0 w.heap.size 1 v bl.length (bl.map u8v)) ∧ (RdC w' 0 w.heap.size 1 u l.length (l.map u16v)) ∧ (Own w' w.heap.size 5 1 y (bl.length + 1 + 2 * i) ((bl ++ UInt8.ofNat l.length :: (l.take i).flatMap be2).map u8v))) _ hN hd ⟨0, _, rfl, (sl_base hN rfl s1), (sl_hit hN rfl), (sl_hit hN rfl), (sl_hit hN rfl), (sl_hit hN rfl), (sl_hit hN rfl), (sl_hit hN rfl), (sl_hit hN rfl), (sl_hit hN rfl), (sl_hit hN rfl), (sl_hit hN rfl), (sl_hit hN rfl), Nat.zero_le _, hb, hv, h, (hO182.cast (by first | omega | (simp; try omega)) (by simp))⟩ ?_
  rintro _ a187 w187 hN187 hd187 ⟨i, y, rfl, s187_1, s187_4, s187_6, s187_7, s187_8, s187_9, s187_10, s187_11, s187_12, s187_13, s187_5, s187_0, hi, hb, hv, h, hO188⟩
  have z_w187 := hb.size
  refine seq_any fun K189 hK189 => ?_
  refine seq_any fun K190 hK190 => ?_
  refine one_reg ?_
  refine op_move (ev_base hN187 rfl s187_5) ?_
  refine op_move (ev_base hN187 rfl s187_1) ?_
  refine op_len_rd Try.underlying75 (ev_hit hN187 rfl) h ?_
  refine op_lss (ev_hit hN187 rfl) (ev_hit hN187 rfl) (fun c17 => ?_) (fun c17 => ?_)
  · -- 17 True
    refine reg_nil ?_
    refine hK190 _ _ ?_
    refine wp_cond_true (ev_hit hN187 rfl) ?_
    refine wp_skip ?_
    refine hK189 _ _ ?_
    refine seq_any fun K191 hK191 => ?_
    refine wp_block ?_
    refine reg_chain (Φ := phiC [(fun _ _ uz _ => uz = y), (fun _ _ uz _ => uz = u), (fun _ _ uz _ => uz = (Value.int .i64 ((i : Nat) : Int))), (fun _ vz uz w' => ∃ (b192 : (Nat)) (o193 : (Nat)), uz = (ptr b192 o193) ∧ PtC w' 0 w.heap.size b192 o193 [(Value.int .u16 ((l.getD i 0).toNat : Int))] ∧ (w.heap.size ≤ w'.heap.size ∧ ∀ k, vz.ownBlock = some k → w.heap.size ≤ k)), (fun _ _ uz _ => uz = (Value.int .u16 ((l.getD i 0).toNat : Int))), (fun _ _ uz _ => uz = (Value.int .u16 (((l.getD i 0).toNat / 256 : Nat) : Int))), (fun _ _ uz _ => uz = (Value.int .u8 ((UInt8.ofNat ((l.getD i 0).toNat / 256)).toNat : Int))), (fun _ _ uz _ => uz = u), (fun _ _ uz _ => uz = (Value.int .i64 ((i : Nat) : Int))), (fun _ vz uz w' => ∃ (b196 : (Nat)) (o197 : (Nat)), uz = (ptr b196 o197) ∧ PtC w' 0 w.heap.size b196 o197 [(Value.int .u16 ((l.getD i 0).toNat : Int))] ∧ (w.heap.size ≤ w'.heap.size ∧ ∀ k, vz.ownBlock = some k → w.heap.size ≤ k)), (fun _ _ uz _ => uz = (Value.int .u16 ((l.getD i 0).toNat : Int))), (fun _ _ uz _ => uz = (Value.int .u16 (((l.getD i 0).toNat % 256 : Nat) : Int))), (fun _ _ uz _ => uz = (Value.int .u8 ((UInt8.ofNat ((l.getD i 0).toNat % 256)).toNat : Int))), (fun _ vz uz w' => ∃ (b201 : Nat), uz = (Value.slice (some ⟨b201, 0, none⟩) 2 2) ∧ w187.heap.size ≤ b201 ∧ Bx w' b201 5 [(Value.int .u8 ((UInt8.ofNat ((l.getD i 0).toNat / 256)).toNat : Int)), (Value.int .u8 ((UInt8.ofNat ((l.getD i 0).toNat % 256)).toNat : Int))] ∧ vz.ownBlock ≠ some b201), chP 0, chP 0]) (C := CL [(fun vz w' => Own w' w.heap.size 5 1 vz (bl.length + 1 + 2 * i) ((bl ++ UInt8.ofNat l.length :: (l.take i).flatMap be2).map u8v)), (fun vz w' => Own w' w.heap.size 5 1 vz ((bl.length + 1 + 2 * i) + 2) ((((bl ++ UInt8.ofNat l.length :: (l.take i).flatMap be2) ++ [(UInt8.ofNat ((l.getD i 0).toNat / 256)), (UInt8.ofNat ((l.getD i 0).toNat % 256))])).map u8v))]) ⟨[14], fun c => [36, 34].getD c 36⟩ y mixed (by kernel_rfl) (by kernel_rfl) (by kernel_rfl) (by kernel_rfl) hN187 (StK.get0 (n := 1) (StK.eq (StK.eq (StK.eq (StK.cons (fun c v u w1 w2 E h => by obtain ⟨x0, x1, hv, f0, q0⟩ := h; exact ⟨x0, x1, hv, f0.keep0 E, ⟨Nat.le_trans q0.1 E.size, q0.2⟩⟩) (fun c v v' u w1 w2 _ E h => by obtain ⟨x0, x1, hv, f0, q0⟩ := h; exact ⟨x0, x1, hv, f0.keep E.1 (fun k hk => .inr (q0.2 k hk)), ⟨Nat.le_trans q0.1 E.1.size, ge_step E q0.1 q0.2⟩⟩) (StK.eq (StK.eq (StK.eq (StK.eq (StK.eq (StK.cons (fun c v u w1 w2 E h => by obtain ⟨x0, x1, hv, f0, q0⟩ := h; exact ⟨x0, x1, hv, f0.keep0 E, ⟨Nat.le_trans q0.1 E.size, q0.2⟩⟩) (fun c v v' u w1 w2 _ E h => by obtain ⟨x0, x1, hv, f0, q0⟩ := h; exact ⟨x0, x1, hv, f0.keep E.1 (fun k hk => .inr (q0.2 k hk)), ⟨Nat.le_trans q0.1 E.1.size, ge_step E q0.1 q0.2⟩⟩) (StK.eq (StK.eq (StK.eq (StK.cons (fun c v u w1 w2 E h => by obtain ⟨x0, hv, l0, f0, q0⟩ := h; exact ⟨x0, hv, l0, f0.keep0 E, q0⟩) (fun c v v' u w1 w2 _ E h => by obtain ⟨x0, hv, l0, f0, q0⟩ := h; exact ⟨x0, hv, l0, f0.keep E.1 (fun hh => q0 hh.symm), ne_step E f0.lt q0⟩) (StK.ch (StK.ch (StK.nil)))))))))))))))))) (StK.get1 (n := 1) (StK.eq (StK.eq (StK.eq (StK.cons (fun c v u w1 w2 E h => by obtain ⟨x0, x1, hv, f0, q0⟩ := h; exact ⟨x0, x1, hv, f0.keep0 E, ⟨Nat.le_trans q0.1 E.size, q0.2⟩⟩) (fun c v v' u w1 w2 _ E h => by obtain ⟨x0, x1, hv, f0, q0⟩ := h; exact ⟨x0, x1, hv, f0.keep E.1 (fun k hk => .inr (q0.2 k hk)), ⟨Nat.le_trans q0.1 E.1.size, ge_step E q0.1 q0.2⟩⟩) (StK.eq (StK.eq (StK.eq (StK.eq (StK.eq (StK.cons (fun c v u w1 w2 E h => by obtain ⟨x0, x1, hv, f0, q0⟩ := h; exact ⟨x0, x1, hv, f0.keep0 E, ⟨Nat.le_trans q0.1 E.size, q0.2⟩⟩) (fun c v v' u w1 w2 _ E h => by obtain ⟨x0, x1, hv, f0, q0⟩ := h; exact ⟨x0, x1, hv, f0.keep E.1 (fun k hk => .inr (q0.2 k hk)), ⟨Nat.le_trans q0.1 E.1.size, ge_step E q0.1 q0.2⟩⟩) (StK.eq (StK.eq (StK.eq (StK.cons (fun c v u w1 w2 E h => by obtain ⟨x0, hv, l0, f0, q0⟩ := h; exact ⟨x0, hv, l0, f0.keep0 E, q0⟩) (fun c v v' u w1 w2 _ E h => by obtain ⟨x0, hv, l0, f0, q0⟩ := h; exact ⟨x0, hv, l0, f0.keep E.1 (fun hh => q0 hh.symm), ne_step E f0.lt q0⟩) (StK.ch (StK.ch (StK.nil)))))))))))))))))) (StL2.get0 (StL2.own (StL2.own (StL2.nil)))) (StL2.get1 (StL2.own (StL2.own (StL2.nil)))) hO188 (ObLn.get (ObLn.cons ?_ (ObLn.cons ?_ (ObLn.cons ?_ (ObLn.cons ?_ (ObLn.cons ?_ (ObLn.cons ?_ (ObLn.cons ?_ (ObLn.cons ?_ (ObLn.cons ?_ (ObLn.cons ?_ (ObLn.cons ?_ (ObLn.cons ?_ (ObLn.cons ?_ (ObLn.cons ?_ (ObLn.pass rfl (ObLn.cons ?_ (ObLn.nil)))))))))))))))))) (ObLc.get (ObLc.cons ?_ (ObLc.nil))) ?_
    · -- operation 0, slot 20
      intro a192 w192 cc192 cv192 hN192 hcl192 hR192 hlt192 hvo192 hbs192 hdp192
      have hR192 : w187.grownBy w192 y.ownBlock := hR192
      have hO188_o := hO188
      have q192_0 : a192.tmps.getD 0 undef = y := (hbs192 0 (by kernel_rfl)).trans (sl_base hN187 rfl s187_0)
      clear hbs192 hdp192
      refine op_move (ev_base hN192 rfl q192_0) ?_
      exact obNc_end rfl rfl ((grown_refl _ _))
    · -- operation 1, slot 21
      intro a193 w193 cc193 cv193 hN193 hcl193 hR193 hlt193 hvo193 hbs193 hdp193
      have hR193 : w187.grownBy w193 y.ownBlock := hR193
      have hO188_o := hO188
      have q193_1 : a193.tmps.getD 1 undef = u := (hbs193 1 rfl).trans (sl_base hN187 rfl s187_1)
      clear hbs193 hdp193
      refine op_move (ev_base hN193 rfl q193_1) ?_
      exact obNc_end rfl rfl ((grown_refl _ _))
    · -- operation 2, slot 22
      intro a194 w194 cc194 cv194 hN194 hcl194 hR194 hlt194 hvo194 hbs194 hdp194
      have hR194 : w187.grownBy w194 y.ownBlock := hR194
      have hO188_o := hO188
      have q194_5 : a194.tmps.getD 5 undef = (Value.int .i64 ((i : Nat) : Int)) := (hbs194 5 rfl).trans (sl_base hN187 rfl s187_5)
      clear hbs194 hdp194
      refine op_move (ev_base hN194 rfl q194_5) ?_
      exact obNc_end rfl rfl ((grown_refl _ _))
    · -- operation 3, slot 23
      intro a195 w195 cc195 cv195 hN195 hcl195 hR195 hlt195 hvo195 hbs195 hdp195
      have hR195 : w187.grownBy w195 y.ownBlock := hR195
      have hO188_o := hO188
      have z_w195 := hR195.size
      have hb := below_stepO hb hO188 hR195 hb.size (by omega)
      have hv := hv.keepO hO188 hR195 (by omega)
      have h := h.keepO hO188 hR195 (by omega)
      have q195_21 : a195.tmps.getD 21 undef = u := hdp195 1 _ 21 (by kernel_rfl) rfl rfl
      have q195_22 : a195.tmps.getD 22 undef = (Value.int .i64 ((i : Nat) : Int)) := hdp195 2 _ 22 (by kernel_rfl) rfl rfl
      clear hbs195 hdp195
      refine op_index_rd slt75 (ev_base hN195 rfl q195_21) h (ev_base hN195 rfl q195_22) (by omega) (by omega) ?_
      intro b196 o197 h0b196 h1b196 hc198
      have hp199 : PtC w195 0 w.heap.size b196 o197 [(Value.int .u16 ((l.getD i 0).toNat : Int))] := ⟨h0b196, h1b196, fun j u hu => hc198 j u (by have := (List.getElem?_eq_some_iff.1 hu).1; simpa using this) ((fun j u hu => one_at (el_u16 (i := i) (by omega) (by omega)) hu) j u hu)⟩
      exact obNc_end rfl ⟨b196, o197, rfl, hp199, ⟨by omega, ge_of hvo195 (fun k hk => by have := (hO188_o.lt k hk).1; omega) (by omega)⟩⟩ ((grown_refl _ _))
    · -- operation 4, slot 24
      intro a200 w200 cc200 cv200 hN200 hcl200 hR200 hlt200 hvo200 hbs200 hdp200
      have hR200 : w187.grownBy w200 y.ownBlock := hR200
      have hO188_o := hO188
      have z_w200 := hR200.size
      have hb := below_stepO hb hO188 hR200 hb.size (by omega)
      have hv := hv.keepO hO188 hR200 (by omega)
      have h := h.keepO hO188 hR200 (by omega)
      obtain ⟨b192, o193, q200_23, hp195, xq200_23_0⟩ := hdp200 3 _ 23 (by kernel_rfl) rfl rfl
      have hp195 : PtC w200 0 w.heap.size b192 o193 [(Value.int .u16 ((l.getD i 0).toNat : Int))] := hp195
      clear hbs200 hdp200
      refine op_load1 (v := (Value.int .u16 ((l.getD i 0).toNat : Int))) one46 (ev_base hN200 rfl q200_23) (hp195.2.2 0 _ rfl) ?_
      exact obNc_end rfl rfl ((grown_refl _ _))
    · -- operation 5, slot 25
      intro a201 w201 cc201 cv201 hN201 hcl201 hR201 hlt201 hvo201 hbs201 hdp201
      have hR201 : w187.grownBy w201 y.ownBlock := hR201
      have hO188_o := hO188
      have q201_24 : a201.tmps.getD 24 undef = (Value.int .u16 ((l.getD i 0).toNat : Int)) := hdp201 4 _ 24 (by kernel_rfl) rfl rfl
      clear hbs201 hdp201
      refine op_quo (r := (((l.getD i 0).toNat / 256 : Nat) : Int)) (ev_base hN201 rfl q201_24) rfl (by decide) quo16 ?_
      exact obNc_end rfl rfl ((grown_refl _ _))
    · -- operation 6, slot 26
      intro a202 w202 cc202 cv202 hN202 hcl202 hR202 hlt202 hvo202 hbs202 hdp202
      have hR202 : w187.grownBy w202 y.ownBlock := hR202
      have hO188_o := hO188
      have z_w202 := hR202.size
      have hb := below_stepO hb hO188 hR202 hb.size (by omega)
      have hv := hv.keepO hO188 hR202 (by omega)
      have h := h.keepO hO188 hR202 (by omega)
      have q202_25 : a202.tmps.getD 25 undef = (Value.int .u16 (((l.getD i 0).toNat / 256 : Nat) : Int)) := hdp202 5 _ 25 (by kernel_rfl) rfl rfl
      clear hbs202 hdp202
      refine op_conv (r := ((UInt8.ofNat ((l.getD i 0).toNat / 256)).toNat : Int)) (ev_base hN202 rfl q202_25) us46 Try.underlying5 conv_u8 ?_
      exact obNc_end rfl rfl ((grown_refl _ _))
    · -- operation 7, slot 27
      intro a203 w203 cc203 cv203 hN203 hcl203 hR203 hlt203 hvo203 hbs203 hdp203
      have hR203 : w187.grownBy w203 y.ownBlock := hR203
      have hO188_o := hO188
      have q203_1 : a203.tmps.getD 1 undef = u := (hbs203 1 rfl).trans (sl_base hN187 rfl s187_1)
      clear hbs203 hdp203
      refine op_move (ev_base hN203 rfl q203_1) ?_
      exact obNc_end rfl rfl ((grown_refl _ _))
    · -- operation 8, slot 28
      intro a204 w204 cc204 cv204 hN204 hcl204 hR204 hlt204 hvo204 hbs204 hdp204
      have hR204 : w187.grownBy w204 y.ownBlock := hR204
      have hO188_o := hO188
      have q204_5 : a204.tmps.getD 5 undef = (Value.int .i64 ((i : Nat) : Int)) := (hbs204 5 rfl).trans (sl_base hN187 rfl s187_5)
      clear hbs204 hdp204
      refine op_move (ev_base hN204 rfl q204_5) ?_
      exact obNc_end rfl rfl ((grown_refl _ _))
    · -- operation 9, slot 29
      intro a205 w205 cc205 cv205 hN205 hcl205 hR205 hlt205 hvo205 hbs205 hdp205
      have hR205 : w187.grownBy w205 y.ownBlock := hR205
      have hO188_o := hO188
      have z_w205 := hR205.size
      have hb := below_stepO hb hO188 hR205 hb.size (by omega)
      have hv := hv.keepO hO188 hR205 (by omega)
      have h := h.keepO hO188 hR205 (by omega)
      have q205_27 : a205.tmps.getD 27 undef = u := hdp205 7 _ 27 (by kernel_rfl) rfl rfl
      have q205_28 : a205.tmps.getD 28 undef = (Value.int .i64 ((i : Nat) : Int)) := hdp205 8 _ 28 (by kernel_rfl) rfl rfl
      clear hbs205 hdp205
      refine op_index_rd slt75 (ev_base hN205 rfl q205_27) h (ev_base hN205 rfl q205_28) (by omega) (by omega) ?_
      intro b206 o207 h0b206 h1b206 hc208
      have hp209 : PtC w205 0 w.heap.size b206 o207 [(Value.int .u16 ((l.getD i 0).toNat : Int))] := ⟨h0b206, h1b206, fun j u hu => hc208 j u (by have := (List.getElem?_eq_some_iff.1 hu).1; simpa using this) ((fun j u hu => one_at (el_u16 (i := i) (by omega) (by omega)) hu) j u hu)⟩
      exact obNc_end rfl ⟨b206, o207, rfl, hp209, ⟨by omega, ge_of hvo205 (fun k hk => by have := (hO188_o.lt k hk).1; omega) (by omega)⟩⟩ ((grown_refl _ _))
    · -- operation 10, slot 30
      intro a210 w210 cc210 cv210 hN210 hcl210 hR210 hlt210 hvo210 hbs210 hdp210
      have hR210 : w187.grownBy w210 y.ownBlock := hR210
      have hO188_o := hO188
      have z_w210 := hR210.size
      have hb := below_stepO hb hO188 hR210 hb.size (by omega)
      have hv := hv.keepO hO188 hR210 (by omega)
      have h := h.keepO hO188 hR210 (by omega)
      obtain ⟨b196, o197, q210_29, hp199, xq210_29_0⟩ := hdp210 9 _ 29 (by kernel_rfl) rfl rfl
      have hp199 : PtC w210 0 w.heap.size b196 o197 [(Value.int .u16 ((l.getD i 0).toNat : Int))] := hp199
      clear hbs210 hdp210
      refine op_load1 (v := (Value.int .u16 ((l.getD i 0).toNat : Int))) one46 (ev_base hN210 rfl q210_29) (hp199.2.2 0 _ rfl) ?_
      exact obNc_end rfl rfl ((grown_refl _ _))
    · -- operation 11, slot 31
      intro a211 w211 cc211 cv211 hN211 hcl211 hR211 hlt211 hvo211 hbs211 hdp211
      have hR211 : w187.grownBy w211 y.ownBlock := hR211
      have hO188_o := hO188
      have q211_30 : a211.tmps.getD 30 undef = (Value.int .u16 ((l.getD i 0).toNat : Int)) := hdp211 10 _ 30 (by kernel_rfl) rfl rfl
      clear hbs211 hdp211
      refine op_rem (r := (((l.getD i 0).toNat % 256 : Nat) : Int)) (ev_base hN211 rfl q211_30) rfl (by decide) rem_256 ?_
      exact obNc_end rfl rfl ((grown_refl _ _))
    · -- operation 12, slot 32
      intro a212 w212 cc212 cv212 hN212 hcl212 hR212 hlt212 hvo212 hbs212 hdp212
      have hR212 : w187.grownBy w212 y.ownBlock := hR212
      have hO188_o := hO188
      have z_w212 := hR212.size
      have hb := below_stepO hb hO188 hR212 hb.size (by omega)
      have hv := hv.keepO hO188 hR212 (by omega)
      have h := h.keepO hO188 hR212 (by omega)
      have q212_31 : a212.tmps.getD 31 undef = (Value.int .u16 (((l.getD i 0).toNat % 256 : Nat) : Int)) := hdp212 11 _ 31 (by kernel_rfl) rfl rfl
      clear hbs212 hdp212
      refine op_conv (r := ((UInt8.ofNat ((l.getD i 0).toNat % 256)).toNat : Int)) (ev_base hN212 rfl q212_31) us46 Try.underlying5 conv_u8 ?_
      exact obNc_end rfl rfl ((grown_refl _ _))
    · -- operation 13, slot 33
      intro a213 w213 cc213 cv213 hN213 hcl213 hR213 hlt213 hvo213 hbs213 hdp213
      have hR213 : w187.grownBy w213 y.ownBlock := hR213
      have hO188_o := hO188
      have z_w213 := hR213.size
      have hb := below_stepO hb hO188 hR213 hb.size (by omega)
      have hv := hv.keepO hO188 hR213 (by omega)
      have h := h.keepO hO188 hR213 (by omega)
      have q213_26 : a213.tmps.getD 26 undef = (Value.int .u8 ((UInt8.ofNat ((l.getD i 0).toNat / 256)).toNat : Int)) := hdp213 6 _ 26 (by kernel_rfl) rfl rfl
      have q213_32 : a213.tmps.getD 32 undef = (Value.int .u8 ((UInt8.ofNat ((l.getD i 0).toNat % 256)).toNat : Int)) := hdp213 12 _ 32 (by kernel_rfl) rfl rfl
      clear hbs213 hdp213
      refine op_bslice (e := 5) (pv := [(0, (Value.int .u8 ((UInt8.ofNat ((l.getD i 0).toNat / 256)).toNat : Int))), (1, (Value.int .u8 ((UInt8.ofNat ((l.getD i 0).toNat % 256)).toNat : Int)))]) (cs := [(Value.int .u8 ((UInt8.ofNat ((l.getD i 0).toNat / 256)).toNat : Int)), (Value.int .u8 ((UInt8.ofNat ((l.getD i 0).toNat % 256)).toNat : Int))]) ⟨rfl, (ev_base hN213 rfl q213_26), ⟨rfl, (ev_base hN213 rfl q213_32), trivial⟩⟩ (by kernel_rfl) ?_
      intro w214 b215 lo_b215 hi_b215 hB217 E216
      have z_w214 := E216.size
      have hv := hv.keep0 E216
      have h := h.keep0 E216
      have hb := below_step0 hb E216 hb.size
      exact obNc_end rfl ⟨b215, rfl, (by omega), hB217, (fun hh => by have := hlt213 _ hh; omega)⟩ (E216)
    · -- operation 15, slot 0
      intro a218 w218 cc218 cv218 hN218 hcl218 hR218 hlt218 hvo218 hbs218 hdp218
      have hR218 : w187.grownBy w218 y.ownBlock := hR218
      have hO188_o := hO188
      have hch218 : chP 0 cc218 cv218 (a218.tmps.getD 34 undef) w218 := hdp218 14 _ 34 (by kernel_rfl) rfl rfl
      have hcc218 : cc218 = 1 := Nat.le_antisymm hcl218 hch218.1
      have q218_34 := hch218.2 hcc218
      clear hbs218 hdp218
      refine op_assign (ev_base hN218 rfl q218_34) ?_
      exact obNc_end rfl ⟨by omega, fun _ => rfl⟩ ((grown_refl _ _))
    · -- operation 14, slot 34
      intro o_ ho_; obtain rfl := Option.some.inj ho_; intro a219 w219 cv219 hN219 hR219 hcv0219 hbs219 hdp219 hC219
      have hR219 : w187.grownBy w219 y.ownBlock := hR219
      have hO188_o := hO188
      have z_w219 := hR219.size
      have hb := below_stepO hb hO188 hR219 hb.size (by omega)
      have hv := hv.keepO hO188 hR219 (by omega)
      have h := h.keepO hO188 hR219 (by omega)
      have hcv219 : y = cv219 := (hcv0219 rfl).symm
      subst hcv219
      have hC219 : Own w219 w.heap.size 5 1 y (bl.length + 1 + 2 * i) ((bl ++ UInt8.ofNat l.length :: (l.take i).flatMap be2).map u8v) := hC219
      have q219_20 : a219.tmps.getD 20 undef = y := hdp219 0 _ 20 (by kernel_rfl) rfl rfl
      obtain ⟨b201, q219_33, lo219_0, hB203, xq219_33_0⟩ := hdp219 13 _ 33 (by kernel_rfl) rfl rfl
      have hB203 : Bx w219 b201 5 [(Value.int .u8 ((UInt8.ofNat ((l.getD i 0).toNat / 256)).toNat : Int)), (Value.int .u8 ((UInt8.ofNat ((l.getD i 0).toNat % 256)).toNat : Int))] := hB203
      clear hbs219 hdp219
      have hP225 := hC219
      refine op_append slt22 (ev_base hN219 rfl q219_20) hP225 (ev_base hN219 rfl q219_33) (Src.ofRd Try.underlying22 (by decide) (RdC.ofBx (sz := 1) (n := 2) hB203 rfl (by decide)) (by simp [Value.oneCell', u8v])) (by unfold maxLen; omega) (by omega) hb.size ?_
      intro v220 w221 hO223 E222 hm224
      have z_w221 := E222.size
      have hv := hv.keepO hP225 E222 (by omega)
      have h := h.keepO hP225 E222 (by omega)
      have hB203 := hB203.keep E222 (fun hh => xq219_33_0 hh.symm)
      have hb := below_stepO hb hP225 E222 hb.size (by omega)
      have hO223 : Own w221 w.heap.size 5 1 v220 ((bl.length + 1 + 2 * i) + 2) ((((bl ++ UInt8.ofNat l.length :: (l.take i).flatMap be2) ++ [(UInt8.ofNat ((l.getD i 0).toNat / 256)), (UInt8.ofNat ((l.getD i 0).toNat % 256))])).map u8v) := by simpa [u8v, u16v, cellsV] using hO223
      exact obCc_end rfl rfl (chP_now (w := w221)) hO223 ⟨E222, hm224⟩
    · -- behind the region
      intro a226 w226 v204 hN226 hd226 hbs226 hph226 hC226 E226 hm226
      have hd226 := hd226.trans hd187
      have s226_0 : a226.tmps.getD 0 undef = v204 := (show chP 0 1 v204 (a226.tmps.getD 0 undef) w226 from hph226 15 _ 0 rfl rfl).2 rfl
      have s226_1 : a226.tmps.getD 1 undef = u := (hbs226 1 rfl).trans (sl_base hN187 rfl s187_1)
      have s226_4 : a226.tmps.getD 4 undef = (Value.slice none 0 0) := (hbs226 4 rfl).trans (sl_base hN187 rfl s187_4)
      have s226_5 : a226.tmps.getD 5 undef = (Value.int .i64 ((i : Nat) : Int)) := (hbs226 5 rfl).trans (sl_base hN187 rfl s187_5)
      have s226_6 : a226.tmps.getD 6 undef = (Value.slice (some ⟨b166, 0, none⟩) 0 0) := (hbs226 6 rfl).trans (sl_base hN187 rfl s187_6)
      have s226_7 : a226.tmps.getD 7 undef = v := (hbs226 7 rfl).trans (sl_base hN187 rfl s187_7)
      have s226_8 : a226.tmps.getD 8 undef = v169 := (hbs226 8 rfl).trans (sl_base hN187 rfl s187_8)
      have s226_9 : a226.tmps.getD 9 undef = u := (hbs226 9 rfl).trans (sl_base hN187 rfl s187_9)
      have s226_10 : a226.tmps.getD 10 undef = (Value.int .i64 ((l.length : Nat) : Int)) := (hbs226 10 rfl).trans (sl_base hN187 rfl s187_10)
      have s226_11 : a226.tmps.getD 11 undef = (Value.int .u8 ((UInt8.ofNat l.length).toNat : Int)) := (hbs226 11 rfl).trans (sl_base hN187 rfl s187_11)
      have s226_12 : a226.tmps.getD 12 undef = (Value.slice (some ⟨b176, 0, none⟩) 1 1) := (hbs226 12 rfl).trans (sl_base hN187 rfl s187_12)
      have s226_13 : a226.tmps.getD 13 undef = v179 := (hbs226 13 rfl).trans (sl_base hN187 rfl s187_13)
      have s226_14 : a226.tmps.getD 14 undef = (Value.int .i64 ((i : Nat) : Int)) := (hbs226 14 rfl).trans (sl_hit hN187 rfl)
      have s226_15 : a226.tmps.getD 15 undef = u := (hbs226 15 rfl).trans (sl_hit hN187 rfl)
      have s226_16 : a226.tmps.getD 16 undef = (Value.int .i64 ((l.length : Nat) : Int)) := (hbs226 16 rfl).trans (sl_hit hN187 rfl)
      have s226_17 : a226.tmps.getD 17 undef = (Value.bool true) := (hbs226 17 rfl).trans (sl_hit hN187 rfl)
      have s226_20 : a226.tmps.getD 20 undef = y := hph226 0 _ 20 rfl rfl
      have s226_21 : a226.tmps.getD 21 undef = u := hph226 1 _ 21 rfl rfl
      have s226_22 : a226.tmps.getD 22 undef = (Value.int .i64 ((i : Nat) : Int)) := hph226 2 _ 22 rfl rfl
      obtain ⟨b192, o193, s226_23, hp195, xq226_23_0⟩ := hph226 3 _ 23 rfl rfl
      have hp195 : PtC w226 0 w.heap.size b192 o193 [(Value.int .u16 ((l.getD i 0).toNat : Int))] := hp195
      have s226_24 : a226.tmps.getD 24 undef = (Value.int .u16 ((l.getD i 0).toNat : Int)) := hph226 4 _ 24 rfl rfl
      have s226_25 : a226.tmps.getD 25 undef = (Value.int .u16 (((l.getD i 0).toNat / 256 : Nat) : Int)) := hph226 5 _ 25 rfl rfl
      have s226_26 : a226.tmps.getD 26 undef = (Value.int .u8 ((UInt8.ofNat ((l.getD i 0).toNat / 256)).toNat : Int)) := hph226 6 _ 26 rfl rfl
      have s226_27 : a226.tmps.getD 27 undef = u := hph226 7 _ 27 rfl rfl
      have s226_28 : a226.tmps.getD 28 undef = (Value.int .i64 ((i : Nat) : Int)) := hph226 8 _ 28 rfl rfl
      obtain ⟨b196, o197, s226_29, hp199, xq226_29_0⟩ := hph226 9 _ 29 rfl rfl
      have hp199 : PtC w226 0 w.heap.size b196 o197 [(Value.int .u16 ((l.getD i 0).toNat : Int))] := hp199
      have s226_30 : a226.tmps.getD 30 undef = (Value.int .u16 ((l.getD i 0).toNat : Int)) := hph226 10 _ 30 rfl rfl
      have s226_31 : a226.tmps.getD 31 undef = (Value.int .u16 (((l.getD i 0).toNat % 256 : Nat) : Int)) := hph226 11 _ 31 rfl rfl
      have s226_32 : a226.tmps.getD 32 undef = (Value.int .u8 ((UInt8.ofNat ((l.getD i 0).toNat % 256)).toNat : Int)) := hph226 12 _ 32 rfl rfl
      obtain ⟨b201, s226_33, l226_0, hB203, xq226_33_0⟩ := hph226 13 _ 33 rfl rfl
      have hB203 : Bx w226 b201 5 [(Value.int .u8 ((UInt8.ofNat ((l.getD i 0).toNat / 256)).toNat : Int)), (Value.int .u8 ((UInt8.ofNat ((l.getD i 0).toNat % 256)).toNat : Int))] := hB203
      have s226_34 : a226.tmps.getD 34 undef = v204 := (show chP 0 1 v204 (a226.tmps.getD 34 undef) w226 from hph226 14 _ 34 rfl rfl).2 rfl
      clear hbs226 hph226
      have E226 : w187.grownBy w226 y.ownBlock := E226
      have hC226 : Own w226 w.heap.size 5 1 v204 ((bl.length + 1 + 2 * i) + 2) ((((bl ++ UInt8.ofNat l.length :: (l.take i).flatMap be2) ++ [(UInt8.ofNat ((l.getD i 0).toNat / 256)), (UInt8.ofNat ((l.getD i 0).toNat % 256))])).map u8v) := hC226
      have z_w226 := E226.size
      have hv := hv.keepO hO188 E226 (by omega)
      have h := h.keepO hO188 E226 (by omega)
      have hb := below_stepO hb hO188 E226 hb.size (by omega)
      refine hK191 _ _ ?_
      refine one_reg ?_
      refine op_move (ev_base hN226 rfl s226_5) ?_
      refine op_add (ev_hit hN226 rfl) rfl (add64 (by omega)) ?_
      refine op_assign (ev_hit hN226 rfl) ?_
      refine reg_nil ?_
      -- round 17T
      exact loop_next _ hN226 hd226 ⟨i + 1, _, rfl, (sl_base hN226 rfl s226_1), (sl_base hN226 rfl s226_4), (sl_base hN226 rfl s226_6), (sl_base hN226 rfl s226_7), (sl_base hN226 rfl s226_8), (sl_base hN226 rfl s226_9), (sl_base hN226 rfl s226_10), (sl_base hN226 rfl s226_11), (sl_base hN226 rfl s226_12), (sl_base hN226 rfl s226_13), (sl_hit hN226 rfl).trans (congrArg (Value.int .i64) (by omega)), (sl_base hN226 rfl s226_0), (by omega), hb, hv, h, (hC226.cast (by first | omega | (simp; try omega)) (by rw [snoc (d := 0) (l := l) (i := i) (by omega), List.flatMap_append]; simp [be2, ofNat_mod]))⟩ (by omega)
  · -- 17 False
    refine reg_nil ?_
    refine hK190 _ _ ?_
    refine wp_cond_false (ev_hit hN187 rfl) ?_
    refine wp_exit (then_exit (then_exit (blk_hit ?_)))
    refine hK185 _ _ ?_
    refine seq_any fun K227 hK227 => ?_
    refine one_reg ?_
    refine op_move (ev_base hN187 rfl s187_0) ?_
    refine op_assign (ev_hit hN187 rfl) ?_
    refine reg_nil ?_
    refine hK227 _ _ ?_
    refine wp_ret ?_
    refine ret1 rfl hd187 (ev_hit hN187 rfl) ⟨_, rfl, ?_⟩
    -- path 17F
    have ei : l.take i = l := List.take_of_length_le (by omega)
    have hq := hO188
    rw [ei] at hq
    exact ⟨hb, hq.cast (by rw [putL_len]; omega) (by rw [putL])⟩

end Go.Proofs.Ytkkongnmcfdioaa
