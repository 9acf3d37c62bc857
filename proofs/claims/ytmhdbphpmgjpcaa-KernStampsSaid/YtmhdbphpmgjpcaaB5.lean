/- Walks, written by a program: what each function of the translation hands back. -/
import Derived.Test.YtmhdbphpmgjpcaaProg
import Derived.KernelRfl
import Derived.Test.YtmhdbphpmgjpcaaB4
namespace Go.Proofs.Ytmhdbphpmgjpcaa
open Go.Gx Go.RowKit
attribute [local irreducible] wpList wpStill Code.wp Calls

theorem normW_ret (l : Lb) (v : Value) (w : World) (hz : l.length ≤ 100000000) (hl : RdC w 0 w.heap.size 1 v l.length (l.map u16v)) : Ret Try.prog 90 #[v] w (fun v' w' => Below w.heap.size w w' ∧ ∃ u, v' = .tuple #[u, .int .i64 (normE l)] ∧ Own w' w.heap.size 46 1 u (normL l).length ((normL l).map u16v)) := by
 have hb := Below.refl w.heap.size w
 refine enter (N := 11) Try.func90 rfl rfl (by simp) fun a0 hN hd hA => ?_
 have s0 : a0.tmps.getD 0 undef = v := hA 0 (by simp)
 clear hA
 refine seq_any fun K1 hK1 => ?_
 refine one_reg ?_
 refine op_assign rfl ?_
 refine op_assign rfl ?_
 refine reg_nil ?_
 refine hK1 _ _ ?_
 refine seq_any fun K2 hK2 => ?_
 refine one_reg ?_
 refine op_move (ev_base hN rfl s0) ?_
 refine op_fn (vs := [v]) ok116 ⟨(ev_hit hN rfl), trivial⟩ (sortedW_ret l _ _ (by first | assumption | omega | (simp only [List.length_append, List.length_cons, List.length_nil, List.length_drop, List.length_take]; omega) | (dsimp only; omega) | decide | (simp [keyV, be8_len]; done)) (show RdC w 0 w.heap.size 1 v l.length (l.map u16v) from by have hh : RdC w 0 w.heap.size 1 _ _ _ := (hl.mono (L' := 0) (B' := w.heap.size) (Nat.zero_le _) (by omega)); first | exact hh | exact hh.cast (by first | omega | (simp; try omega)) (by first | rfl | simp [u16v]))) ?_
 rintro v3 w4 ⟨E5, hO3⟩
 have E5 := grown_of_below E5
 have z_w4 := E5.size
 have hl := hl.keep0 E5
 have hb := below_step0 hb E5 hb.size
 have hO3 := hO3.mono (base' := w.heap.size) (by omega)
 refine op_assign (ev_hit hN rfl) ?_
 refine reg_nil ?_
 refine hK2 _ _ ?_
 refine seq_any fun K6 hK6 => ?_
 refine seq_any fun K7 hK7 => ?_
 refine one_reg ?_
 refine op_move (ev_hit hN rfl) ?_
 refine op_len_rd Try.underlying45 (ev_hit hN rfl) hO3.rdw ?_
 refine op_gtr (ev_hit hN rfl) rfl (fun c9 => ?_) (fun c9 => ?_)
 · -- 9T
  refine reg_nil ?_
  refine hK7 _ _ ?_
  refine wp_cond_true (ev_hit hN rfl) ?_
  refine seq_any fun K8 hK8 => ?_
  refine one_reg ?_
  refine op_assign rfl ?_
  refine op_assign rfl ?_
  refine reg_nil ?_
  refine hK8 _ _ ?_
  refine wp_ret (then_ret ( ?_))
  refine ret2 rfl hd (ev_hit hN rfl) (ev_hit hN rfl) ⟨_, rfl, ?_⟩
  -- path 9T
  have h8 : 8 < (nrm l).length := by omega
  rw [normE_bad h8, normL_bad h8]
  exact ⟨hb, _, rfl, Own.nil _ _ _ _⟩
 · -- 9F
  refine reg_nil ?_
  refine hK7 _ _ ?_
  refine wp_cond_false (ev_hit hN rfl) ?_
  refine wp_skip ?_
  refine hK6 _ _ ?_
  refine seq_any fun K9 hK9 => ?_
  refine one_reg ?_
  refine op_move (ev_hit hN rfl) ?_
  refine op_assign (ev_hit hN rfl) ?_
  refine op_assign rfl ?_
  refine reg_nil ?_
  refine hK9 _ _ ?_
  refine wp_ret ?_
  refine ret2 rfl hd (ev_hit hN rfl) (ev_hit hN rfl) ⟨_, rfl, ?_⟩
  -- path 9F
  have h8 : ¬ 8 < (nrm l).length := by omega
  rw [normE_ok h8, normL_ok h8]
  exact ⟨hb, _, rfl, hO3⟩

theorem labMay_ret (l : Lb) (v : Value) (w : World) (hz : l.length ≤ 1000000000000) (hl : RdC w 0 w.heap.size 1 v l.length (l.map u16v)) : Ret Try.prog 76 #[v] w (fun v' w' => Below w.heap.size w w' ∧ v' = .bool (mayL l)) := by
 have hb := Below.refl w.heap.size w
 refine enter (N := 10) Try.func76 rfl rfl (by simp) fun a0 hN hd hA => ?_
 have s0 : a0.tmps.getD 0 undef = v := hA 0 (by simp)
 clear hA
 refine seq_any fun K19 hK19 => ?_
 refine one_reg ?_
 refine op_assign rfl ?_
 refine reg_nil ?_
 refine hK19 _ _ ?_
 refine seq_any fun K20 hK20 => ?_
 refine one_reg ?_
 refine op_move (ev_base hN rfl s0) ?_
 refine op_len_rd Try.underlying54 (ev_hit hN rfl) hl ?_
 refine op_leq (ev_hit hN rfl) rfl (fun c5 => ?_) (fun c5 => ?_)
 · -- 5T
  refine op_move (ev_hit hN rfl) ?_
  refine g_true (j := 3) (dj := 6) (b := true) rfl rfl rfl (ev_hit hN rfl) ?_
  refine op_move (ev_base hN rfl s0) ?_
  refine g_true (j := 3) (dj := 6) (b := true) rfl rfl rfl (ev_hit hN rfl) ?_
  refine op_fn (vs := [v]) ok115 ⟨(ev_hit hN rfl), trivial⟩ (rises_ret l _ _ (by first | assumption | omega | (simp only [List.length_append, List.length_cons, List.length_nil, List.length_drop, List.length_take]; omega) | (dsimp only; omega) | decide | (simp [keyV, be8_len]; done)) (show RdC w 0 w.heap.size 1 v l.length (l.map u16v) from by have hh : RdC w 0 w.heap.size 1 _ _ _ := (hl.mono (L' := 0) (B' := w.heap.size) (Nat.zero_le _) (by omega)); first | exact hh | exact hh.cast (by first | omega | (simp; try omega)) (by first | rfl | simp [u16v]))) ?_
  rintro _ w21 ⟨E22, rfl⟩
  have E22 := grown_of_below E22
  have z_w21 := E22.size
  have hl := hl.keep0 E22
  have hb := below_step0 hb E22 hb.size
  refine op_pick_t (ev_hit hN rfl) (ev_hit hN rfl) ?_
  refine op_assign (ev_hit hN rfl) ?_
  refine reg_nil ?_
  refine hK20 _ _ ?_
  refine wp_ret ?_
  refine ret1 rfl hd (ev_hit hN rfl) ⟨_, rfl, ?_⟩
  -- path 5T
  exact ⟨hb, congrArg Value.bool (by unfold mayL; first | (rw [decide_eq_true (show l.length ≤ 8 by omega), Bool.and_true]; done) | (rw [decide_eq_false (show ¬ l.length ≤ 8 by omega), Bool.and_false]))⟩
 · -- 5F
  refine op_move (ev_hit hN rfl) ?_
  refine g_false (j := 3) (dj := 6) (b := true) rfl rfl rfl (ev_hit hN rfl) rfl rfl ?_
  refine g_false (j := 3) (dj := 6) (b := true) rfl rfl rfl (ev_hit hN rfl) rfl rfl ?_
  refine op_pick_f (ev_hit hN rfl) rfl ?_
  refine op_assign (ev_hit hN rfl) ?_
  refine reg_nil ?_
  refine hK20 _ _ ?_
  refine wp_ret ?_
  refine ret1 rfl hd (ev_hit hN rfl) ⟨_, rfl, ?_⟩
  -- path 5F
  exact ⟨hb, congrArg Value.bool (by unfold mayL; first | (rw [decide_eq_true (show l.length ≤ 8 by omega), Bool.and_true]; done) | (rw [decide_eq_false (show ¬ l.length ≤ 8 by omega), Bool.and_false]))⟩

end Go.Proofs.Ytmhdbphpmgjpcaa

/- Walks, written by a program: what each function of the translation hands back. -/
namespace Go.Proofs.Ytmhdbphpmgjpcaa
open Go.Gx Go.RowKit
attribute [local irreducible] wpList wpStill Code.wp Calls

theorem labPut_ret (bl : List UInt8) (l : Lb) (v u : Value) (w : World) (hbl : bl.length ≤ 1000000000) (hl : l.length ≤ 1000000000) (hv : RdC w 0 w.heap.size 1 v bl.length (bl.map u8v)) (h : RdC w 0 w.heap.size 1 u l.length (l.map u16v)) : Ret Try.prog 79 #[v, u] w (fun v' w' => Below w.heap.size w w' ∧ Own w' w.heap.size 5 1 v' (bl.length + (putL l).length) ((bl ++ putL l).map u8v)) := by
 have hb := Below.refl w.heap.size w
 refine enter (N := 32) Try.func79 rfl rfl (by simp) fun a0 hN hd hA => ?_
 have s0 : a0.tmps.getD 0 undef = v := hA 0 (by simp)
 have s1 : a0.tmps.getD 1 undef = u := hA 1 (by simp)
 clear hA
 refine seq_any fun K1 hK1 => ?_
 refine one_reg ?_
 refine op_assign rfl ?_
 refine reg_nil ?_
 refine hK1 _ _ ?_
 refine seq_any fun K2 hK2 => ?_
 refine one_reg ?_
 refine op_bslice (e := 5) (pv := []) (cs := []) trivial (by kernel_rfl) ?_
 intro w3 b4 lo_b4 hi_b4 hB6 E5
 have z_w3 := E5.size
 have hv := hv.keep0 E5
 have h := h.keep0 E5
 have hb := below_step0 hb E5 hb.size
 refine op_move (ev_base hN rfl s0) ?_
 have hP12 := (Own.ofBx (base := w.heap.size) (sz := 1) (n := 0) hB6 rfl (by decide) (by omega))
 refine op_append slt22 (ev_hit hN rfl) hP12 (ev_hit hN rfl) (Src.ofRd Try.underlying22 (by decide) hv (by simp [Value.oneCell', u8v])) (by unfold maxLen; omega) (by omega) hb.size ?_
 intro v7 w8 hO10 E9 hm11
 have z_w8 := E9.size
 have hv := hv.keepO hP12 E9 (by omega)
 have h := h.keepO hP12 E9 (by omega)
 have hb := below_stepO hb hP12 E9 hb.size (by omega)
 have hO10 : Own w8 w.heap.size 5 1 v7 (0 + bl.length) ((bl).map u8v) := by simpa [u8v, u16v, cellsV] using hO10
 refine op_move (ev_base hN rfl s1) ?_
 refine op_len_rd Try.underlying54 (ev_hit hN rfl) h ?_
 refine op_conv (r := ((UInt8.ofNat l.length).toNat : Int)) (ev_hit hN rfl) us3 Try.underlying5 conv_u8 ?_
 refine op_bslice (e := 5) (pv := [(0, (Value.int .u8 ((UInt8.ofNat l.length).toNat : Int)))]) (cs := [(Value.int .u8 ((UInt8.ofNat l.length).toNat : Int))]) ⟨rfl, (ev_hit hN rfl), trivial⟩ (by kernel_rfl) ?_
 intro w13 b14 lo_b14 hi_b14 hB16 E15
 have ne_b14_v7 : v7.ownBlock ≠ some b14 := fun hh => by have := (hO10.lt _ hh).2; omega
 have z_w13 := E15.size
 have hv := hv.keep0 E15
 have h := h.keep0 E15
 have hO10 := hO10.keep0 E15
 have hb := below_step0 hb E15 hb.size
 have hP22 := hO10
 refine op_append slt22 (ev_hit hN rfl) hP22 (ev_hit hN rfl) (Src.ofRd Try.underlying22 (by decide) (RdC.ofBx (sz := 1) (n := 1) hB16 rfl (by decide)) (by simp [Value.oneCell', u8v])) (by unfold maxLen; omega) (by omega) hb.size ?_
 intro v17 w18 hO20 E19 hm21
 have z_w18 := E19.size
 have hv := hv.keepO hP22 E19 (by omega)
 have h := h.keepO hP22 E19 (by omega)
 have hB16 := hB16.keep E19 (fun hh => ne_b14_v7 hh.symm)
 have hb := below_stepO hb hP22 E19 hb.size (by omega)
 have hO20 : Own w18 w.heap.size 5 1 v17 ((0 + bl.length) + 1) (((bl ++ [(UInt8.ofNat l.length)])).map u8v) := by simpa [u8v, u16v, cellsV] using hO20
 have ne_b14_v17 : v17.ownBlock ≠ some b14 := ne_step (w1 := w13) ⟨E19, hm21⟩ (by omega) ne_b14_v7
 refine op_assign (ev_hit hN rfl) ?_
 refine reg_nil ?_
 refine hK2 _ _ ?_
 refine seq_any fun K23 hK23 => ?_
 refine seq_any fun K24 hK24 => ?_
 refine one_reg ?_
 refine op_move (ev_base hN rfl s1) ?_
 refine op_len_rd Try.underlying54 (ev_hit hN rfl) h ?_
 refine op_move rfl ?_
 refine reg_nil ?_
 refine hK24 _ _ ?_
 refine wp_block ?_
 refine loop_m (fun mz_ az_ w' => ∃ (i : Nat) (y : Value), mz_ = l.length - i ∧ (az_.tmps.getD 4 undef = (Value.slice none 0 0)) ∧ (az_.tmps.getD 16 undef = u) ∧ (az_.tmps.getD 17 undef = (Value.int .i64 ((l.length : Nat) : Int))) ∧ (az_.tmps.getD 18 undef = (Value.int .i64 ((i : Nat) : Int))) ∧ (az_.tmps.getD 5 undef = y) ∧ (i ≤ l.length) ∧ (Below w.heap.size w w') ∧ (w18.heap.size ≤ w'.heap.size) ∧ (RdC w' 0 w.heap.size 1 v bl.length (bl.map u8v)) ∧ (RdC w' 0 w.heap.size 1 u l.length (l.map u16v)) ∧ (Own w' w.heap.size 5 1 y (bl.length + 1 + 2 * i) ((bl ++ UInt8.ofNat l.length :: (l.take i).flatMap be2).map u8v))) _ hN hd ⟨0, _, rfl, (sl_hit hN rfl), (sl_hit hN rfl), (sl_hit hN rfl), (sl_hit hN rfl), (sl_hit hN rfl), Nat.zero_le _, hb, (Nat.le_refl _), hv, h, (hO20.cast (by first | omega | (simp; try omega)) (by simp))⟩ ?_
 rintro _ a25 w25 hN25 hd25 ⟨i, y, rfl, s25_4, s25_16, s25_17, s25_18, s25_5, hi, hb, zl_w25, hv, h, hO26⟩
 have z_w25 := hb.size
 refine seq_any fun K27 hK27 => ?_
 refine one_reg ?_
 refine op_lss (ev_base hN25 rfl s25_18) (ev_base hN25 rfl s25_17) (fun c19 => ?_) (fun c19 => ?_)
 · -- 19T
  refine reg_nil ?_
  refine hK27 _ _ ?_
  refine seq_any fun K28 hK28 => ?_
  refine wp_cond_true (ev_hit hN25 rfl) ?_
  refine wp_skip ?_
  refine hK28 _ _ ?_
  refine seq_any fun K29 hK29 => ?_
  refine wp_block ?_
  refine seq_any fun K30 hK30 => ?_
  refine one_reg ?_
  refine op_index_rd slt54 (ev_base hN25 rfl s25_16) h (ev_base hN25 rfl s25_18) (by omega) (by omega) ?_
  intro b31 o32 h0b31 h1b31 hc33
  refine op_load1 (v := (Value.int .u16 ((l.getD i 0).toNat : Int))) one46 (ev_hit hN25 rfl) (by have := hc33 0 (Value.int .u16 ((l.getD i 0).toNat : Int)) (by decide) (el_u16 (i := i) (by omega) (by omega)); simpa using this) ?_
  refine op_assign (ev_hit hN25 rfl) ?_
  refine reg_nil ?_
  refine hK30 _ _ ?_
  refine one_reg ?_
  refine op_move (ev_base hN25 rfl s25_5) ?_
  refine op_move (ev_hit hN25 rfl) ?_
  refine op_shr (r := (((l.getD i 0).toNat / 256 : Nat) : Int)) (ev_hit hN25 rfl) rfl (by decide) shr16 ?_
  refine op_conv (r := ((UInt8.ofNat ((l.getD i 0).toNat / 256)).toNat : Int)) (ev_hit hN25 rfl) us46 Try.underlying5 conv_u8 ?_
  refine op_move (ev_hit hN25 rfl) ?_
  refine op_conv (r := ((UInt8.ofNat (l.getD i 0).toNat).toNat : Int)) (ev_hit hN25 rfl) us46 Try.underlying5 conv_u8 ?_
  refine op_bslice (e := 5) (pv := [(0, (Value.int .u8 ((UInt8.ofNat ((l.getD i 0).toNat / 256)).toNat : Int))), (1, (Value.int .u8 ((UInt8.ofNat (l.getD i 0).toNat).toNat : Int)))]) (cs := [(Value.int .u8 ((UInt8.ofNat ((l.getD i 0).toNat / 256)).toNat : Int)), (Value.int .u8 ((UInt8.ofNat (l.getD i 0).toNat).toNat : Int))]) ⟨rfl, (ev_hit hN25 rfl), ⟨rfl, (ev_hit hN25 rfl), trivial⟩⟩ (by kernel_rfl) ?_
  intro w34 b35 lo_b35 hi_b35 hB37 E36
  have ne_b35_y : y.ownBlock ≠ some b35 := fun hh => by have := (hO26.lt _ hh).2; omega
  have z_w34 := E36.size
  have hv := hv.keep0 E36
  have h := h.keep0 E36
  have hO26 := hO26.keep0 E36
  have hb := below_step0 hb E36 hb.size
  have hP43 := hO26
  refine op_append slt22 (ev_hit hN25 rfl) hP43 (ev_hit hN25 rfl) (Src.ofRd Try.underlying22 (by decide) (RdC.ofBx (sz := 1) (n := 2) hB37 rfl (by decide)) (by simp [Value.oneCell', u8v])) (by unfold maxLen; omega) (by omega) hb.size ?_
  intro v38 w39 hO41 E40 hm42
  have z_w39 := E40.size
  have hv := hv.keepO hP43 E40 (by omega)
  have h := h.keepO hP43 E40 (by omega)
  have hB37 := hB37.keep E40 (fun hh => ne_b35_y hh.symm)
  have hb := below_stepO hb hP43 E40 hb.size (by omega)
  have hO41 : Own w39 w.heap.size 5 1 v38 ((bl.length + 1 + 2 * i) + 2) ((((bl ++ UInt8.ofNat l.length :: (l.take i).flatMap be2) ++ [(UInt8.ofNat ((l.getD i 0).toNat / 256)), (UInt8.ofNat (l.getD i 0).toNat)])).map u8v) := by simpa [u8v, u16v, cellsV] using hO41
  have ne_b35_v38 : v38.ownBlock ≠ some b35 := ne_step (w1 := w34) ⟨E40, hm42⟩ (by omega) ne_b35_y
  refine op_assign (ev_hit hN25 rfl) ?_
  refine reg_nil ?_
  refine hK29 _ _ ?_
  refine one_reg ?_
  refine op_add (ev_base hN25 rfl s25_18) rfl (add64 (by omega)) ?_
  refine op_move (ev_hit hN25 rfl) ?_
  refine reg_nil ?_
  -- round 19T
  exact loop_next _ hN25 hd25 ⟨i + 1, _, rfl, (sl_base hN25 rfl s25_4), (sl_base hN25 rfl s25_16), (sl_base hN25 rfl s25_17), (sl_hit hN25 rfl).trans (congrArg (Value.int .i64) (by omega)), (sl_hit hN25 rfl), (by omega), hb, (by omega), hv, h, (hO41.cast (by first | omega | (simp; try omega)) (by rw [snoc (d := 0) (l := l) (i := i) (by omega), List.flatMap_append]; simp [be2]))⟩ (by omega)
 · -- 19F
  refine reg_nil ?_
  refine hK27 _ _ ?_
  refine seq_any fun K44 hK44 => ?_
  refine wp_cond_false (ev_hit hN25 rfl) ?_
  refine wp_exit (then_exit (then_exit (blk_hit ?_)))
  refine hK23 _ _ ?_
  refine seq_any fun K45 hK45 => ?_
  refine one_reg ?_
  refine op_move (ev_base hN25 rfl s25_5) ?_
  refine op_assign (ev_hit hN25 rfl) ?_
  refine reg_nil ?_
  refine hK45 _ _ ?_
  refine wp_ret ?_
  refine ret1 rfl hd25 (ev_hit hN25 rfl) ⟨_, rfl, ?_⟩
  -- path 19F
  have ei : l.take i = l := List.take_of_length_le (by omega)
  have hq := hO26
  rw [ei] at hq
  exact ⟨hb, hq.cast (by rw [putL_len]; omega) (by rw [putL])⟩

end Go.Proofs.Ytmhdbphpmgjpcaa

/- Walks, written by a program: what each function of the translation hands back. -/
namespace Go.Proofs.Ytmhdbphpmgjpcaa
open Go.Gx Go.RowKit
attribute [local irreducible] wpList wpStill Code.wp Calls

theorem RaiseIn {t : List UInt16} {tv : Value} {C : List KC} {n i k m p base : Nat} {lv la ow : Value} {l o : List UInt16} {T : List (List UInt8)} {Fi : Nat → Prop} {w : World} (hbase : base ≤ w.heap.size) (hn : n ≤ 6) (hi : i < n) (hc : C.length = n ∧ C.getD i default = ⟨la, ow, p, Fi⟩) (hx : Bx w k 134 [lv, .map (some m)]) (O : Own w base 137 3 lv n (C.flatMap cellsK)) (hL : Own w base 46 1 la l.length (l.map u16v)) (hW : Own w base 46 1 ow o.length (o.map u16v)) (hQ : PostS w base p 16 T Fi) (hll : l.length ≤ 100) (htl : t.length ≤ 100) (ht : RdC w 0 w.heap.size 1 tv t.length (t.map u16v)) : Ret Try.prog 44 #[(ptr k 0), (Value.int .i64 ((i : Nat) : Int)), tv] w (fun v' w' => w.grownBy w' lv.ownBlock ∧ v' = .int .i64 (raiseE l t) ∧ ∃ nv, Own w' base 137 3 lv n ((C.set i ⟨nv, ow, p, Fi⟩).flatMap cellsK) ∧ Own w' base 46 1 nv (raiseL l t).length ((raiseL l t).map u16v) ∧ (nv = la ∨ ∀ x, Bl nv x → w.heap.size ≤ x)) := by
 have dk0 : ¬ Fi k := hQ.notBx hx (by decide) (by decide)
 have dlv0 : Dj (Bl lv) Fi := hQ.notOwn O (by decide) (by decide)
 have dla0 : Dj (Bl la) Fi := hQ.notOwn hL (by decide) (by decide)
 have dow0 : Dj (Bl ow) Fi := hQ.notOwn hW (by decide) (by decide)
 have hb := grown_refl w lv.ownBlock
 refine enter (N := 51) Try.func44 rfl rfl (by simp) fun a0 hN hd hA => ?_
 have s0 : a0.tmps.getD 0 undef = (ptr k 0) := hA 0 (by simp)
 have s1 : a0.tmps.getD 1 undef = (Value.int .i64 ((i : Nat) : Int)) := hA 1 (by simp)
 have s2 : a0.tmps.getD 2 undef = tv := hA 2 (by simp)
 clear hA
 refine seq_any fun K1 hK1 => ?_
 refine one_reg ?_
 refine op_assign rfl ?_
 refine reg_nil ?_
 refine hK1 _ _ ?_
 refine seq_any fun K2 hK2 => ?_
 refine seq_any fun K3 hK3 => ?_
 refine one_reg ?_
 refine op_move (ev_base hN rfl s0) ?_
 refine op_peq_some ptrt50 (ev_hit hN rfl) rfl ?_
 refine reg_nil ?_
 refine hK3 _ _ ?_
 refine wp_cond_false (ev_hit hN rfl) ?_
 refine wp_skip ?_
 refine hK2 _ _ ?_
 refine seq_any fun K4 hK4 => ?_
 refine seq_any fun K5 hK5 => ?_
 refine one_reg ?_
 refine op_move (ev_base hN rfl s1) ?_
 refine op_lss (ev_hit hN rfl) rfl (fun c13 => ?_) (fun c13 => ?_)
 · -- 13T
  exfalso; omega
 · -- 13F
  refine op_move (ev_hit hN rfl) ?_
  refine g_true (j := 2) (dj := 14) (b := false) rfl rfl rfl (ev_hit hN rfl) ?_
  refine op_move (ev_base hN rfl s1) ?_
  refine g_true (j := 2) (dj := 14) (b := false) rfl rfl rfl (ev_hit hN rfl) ?_
  refine op_move (ev_base hN rfl s0) ?_
  refine g_true (j := 2) (dj := 14) (b := false) rfl rfl rfl (ev_hit hN rfl) ?_
  refine op_nil (ev_hit hN rfl) ?_
  refine g_true (j := 2) (dj := 14) (b := false) rfl rfl rfl (ev_hit hN rfl) ?_
  refine op_field fld134_0 (ev_hit hN rfl) ?_
  refine g_true (j := 2) (dj := 14) (b := false) rfl rfl rfl (ev_hit hN rfl) ?_
  refine op_load1 (v := lv) one132 (ev_hit hN rfl) (hx.cell rfl) ?_
  refine g_true (j := 2) (dj := 14) (b := false) rfl rfl rfl (ev_hit hN rfl) ?_
  refine op_len_rd Try.underlying132 (ev_hit hN rfl) O.rdw ?_
  refine g_true (j := 2) (dj := 14) (b := false) rfl rfl rfl (ev_hit hN rfl) ?_
  refine op_geq (ev_hit hN rfl) (ev_hit hN rfl) (fun c21 => ?_) (fun c21 => ?_)
  · -- 21T
   exfalso; omega
  · -- 21F
   refine op_pick_f (ev_hit hN rfl) (ev_hit hN rfl) ?_
   refine reg_nil ?_
   refine hK5 _ _ ?_
   refine wp_cond_false (ev_hit hN rfl) ?_
   refine wp_skip ?_
   refine hK4 _ _ ?_
   refine seq_any fun K6 hK6 => ?_
   refine one_reg ?_
   refine op_move (ev_base hN rfl s2) ?_
   refine op_fn (vs := [tv]) ok90 ⟨(ev_hit hN rfl), trivial⟩ (normW_ret t _ _ (by first | assumption | omega | (simp only [List.length_append, List.length_cons, List.length_nil, List.length_drop, List.length_take]; omega) | (dsimp only; omega) | decide | (simp [keyV, be8_len]; done)) (show RdC w 0 w.heap.size 1 tv t.length (t.map u16v) from by have hh : RdC w 0 w.heap.size 1 _ _ _ := (ht.mono (L' := 0) (B' := w.heap.size) (Nat.zero_le _) (by omega)); first | exact hh | exact hh.cast (by first | omega | (simp; try omega)) (by first | rfl | simp [u16v]))) ?_
   rintro _ w8 ⟨E9, v7, rfl, hO7⟩
   have dj10 : DJ v7 la := fun k hk hg => by have q1 := (hO7.lt k hk).1; have q2 := (hL.lt k hg).2; omega
   have dj11 : DJ v7 ow := fun k hk hg => by have q1 := (hO7.lt k hk).1; have q2 := (hW.lt k hg).2; omega
   have dj12 : Dj Fi (Bl v7) := Dj.fresh (fun k hk => (hQ.lt k hk).2) (fun k hk => (hO7.lt k hk).1)
   have E9 := grown_of_below E9
   have z_w8 := E9.size
   have hx := hx.keep0 E9
   have O := O.keep0 E9
   have hL := hL.keep0 E9
   have hW := hW.keep0 E9
   have hQ := hQ.keepG (Gr.of0 E9 NoB) (fun _ _ h => h)
   have ht := ht.keep0 E9
   have hb := grow_step0 hb E9
   have hO7 := hO7.mono (base' := w.heap.size) (by omega)
   have hnl7 := normL_len t
   refine op_move (ev_hit hN rfl) ?_
   refine op_extract (ev_hit hN rfl) rfl ?_
   refine op_extract (ev_hit hN rfl) rfl ?_
   refine op_assign (ev_hit hN rfl) ?_
   refine op_assign (ev_hit hN rfl) ?_
   refine reg_nil ?_
   refine hK6 _ _ ?_
   refine seq_any fun K13 hK13 => ?_
   refine seq_any fun K14 hK14 => ?_
   refine one_reg ?_
   refine op_move (ev_hit hN rfl) ?_
   refine op_neq (ev_hit hN rfl) rfl (fun c29 => ?_) (fun c29 => ?_)
   · -- 29T
    refine reg_nil ?_
    refine hK14 _ _ ?_
    refine wp_cond_true (ev_hit hN rfl) ?_
    refine seq_any fun K15 hK15 => ?_
    refine one_reg ?_
    refine op_assign rfl ?_
    refine reg_nil ?_
    refine hK15 _ _ ?_
    refine wp_ret (then_ret ( ?_))
    refine ret1 rfl hd (ev_hit hN rfl) ⟨_, rfl, ?_⟩
    -- path 13F 21F 29T
    have hn8 : ¬ (nrm t).length ≤ 8 := fun h => c29 (normE_ok (by omega))
    have hr : raiseOk l t = false := by unfold raiseOk; rw [decide_eq_false hn8]; rfl
    obtain ⟨h1, h2⟩ := raise_f hr
    exact ⟨hb, congrArg (Value.int .i64) h2.symm, la, by rw [set_kc_same hc hi]; exact O, hL.cast (by rw [h1]) (by rw [h1]), .inl rfl⟩
   · -- 29F
    refine reg_nil ?_
    refine hK14 _ _ ?_
    refine wp_cond_false (ev_hit hN rfl) ?_
    refine wp_skip ?_
    refine hK13 _ _ ?_
    refine seq_any fun K16 hK16 => ?_
    refine one_reg ?_
    refine op_move (ev_base hN rfl s0) ?_
    refine op_nil (ev_hit hN rfl) ?_
    refine op_field fld134_0 (ev_hit hN rfl) ?_
    refine op_load1 (v := lv) one132 (ev_hit hN rfl) (hx.cell rfl) ?_
    refine op_move (ev_base hN rfl s1) ?_
    refine op_index_rd slt132 (ev_hit hN rfl) O.rdw (ev_hit hN rfl) (by omega) (by omega) ?_
    intro b17 o18 h0b17 h1b17 hc19
    refine op_field fld137_0 (ev_hit hN rfl) ?_
    refine op_load1 (v := la) one54 (ev_hit hN rfl) (hc19 0 (la) (by decide) ((el_kc hc (by omega) (by omega)) 0 (la) rfl)) ?_
    refine op_move (ev_hit hN rfl) ?_
    refine op_fn (vs := [la, v7]) ok91 ⟨(ev_hit hN rfl), ⟨(ev_hit hN rfl), trivial⟩⟩ (joinW_ret l (normL t) _ _ _ (by first | assumption | omega | (simp only [List.length_append, List.length_cons, List.length_nil, List.length_drop, List.length_take]; omega) | (dsimp only; omega) | decide | (simp [keyV, be8_len]; done)) (by first | assumption | omega | (simp only [List.length_append, List.length_cons, List.length_nil, List.length_drop, List.length_take]; omega) | (dsimp only; omega) | decide | (simp [keyV, be8_len]; done)) (show RdC w8 0 w8.heap.size 1 la l.length (l.map u16v) from by have hh : RdC w8 0 w8.heap.size 1 _ _ _ := (hL.rdw.mono (L' := 0) (B' := w8.heap.size) (Nat.zero_le _) (by omega)); first | exact hh | exact hh.cast (by first | omega | (simp; try omega)) (by first | rfl | simp [u16v])) (show RdC w8 0 w8.heap.size 1 v7 (normL t).length ((normL t).map u16v) from by have hh : RdC w8 0 w8.heap.size 1 _ _ _ := (hO7.rdw.mono (L' := 0) (B' := w8.heap.size) (Nat.zero_le _) (by omega)); first | exact hh | exact hh.cast (by first | omega | (simp; try omega)) (by first | rfl | simp [u16v]))) ?_
    rintro v20 w21 ⟨E22, hO20⟩
    have dj23 : DJ v20 la := fun k hk hg => by have q1 := (hO20.lt k hk).1; have q2 := (hL.lt k hg).2; omega
    have dj24 : DJ v20 ow := fun k hk hg => by have q1 := (hO20.lt k hk).1; have q2 := (hW.lt k hg).2; omega
    have dj25 : Dj Fi (Bl v20) := Dj.fresh (fun k hk => (hQ.lt k hk).2) (fun k hk => (hO20.lt k hk).1)
    have dj26 : DJ v20 v7 := fun k hk hg => by have q1 := (hO20.lt k hk).1; have q2 := (hO7.lt k hg).2; omega
    have E22 := grown_of_below E22
    have z_w21 := E22.size
    have hx := hx.keep0 E22
    have O := O.keep0 E22
    have hL := hL.keep0 E22
    have hW := hW.keep0 E22
    have hQ := hQ.keepG (Gr.of0 E22 NoB) (fun _ _ h => h)
    have ht := ht.keep0 E22
    have hO7 := hO7.keep0 E22
    have hb := grow_step0 hb E22
    have hO20 := hO20.mono (base' := w.heap.size) (by omega)
    refine op_assign (ev_hit hN rfl) ?_
    refine reg_nil ?_
    refine hK16 _ _ ?_
    refine seq_any fun K27 hK27 => ?_
    refine seq_any fun K28 hK28 => ?_
    refine one_reg ?_
    refine op_move (ev_hit hN rfl) ?_
    have hjl : (joinL l (normL t)).length ≤ (l ++ normL t).length := nrm_lenL _
    rw [List.length_append] at hjl
    refine op_fn (vs := [v20]) ok76 ⟨(ev_hit hN rfl), trivial⟩ (labMay_ret (joinL l (normL t)) _ _ (by first | assumption | omega | (simp only [List.length_append, List.length_cons, List.length_nil, List.length_drop, List.length_take]; omega) | (dsimp only; omega) | decide | (simp [keyV, be8_len]; done)) (show RdC w21 0 w21.heap.size 1 v20 (joinL l (normL t)).length ((joinL l (normL t)).map u16v) from by have hh : RdC w21 0 w21.heap.size 1 _ _ _ := (hO20.rdw.mono (L' := 0) (B' := w21.heap.size) (Nat.zero_le _) (by omega)); first | exact hh | exact hh.cast (by first | omega | (simp; try omega)) (by first | rfl | simp [u16v]))) ?_
    rintro _ w29 ⟨E30, rfl⟩
    have E30 := grown_of_below E30
    have z_w29 := E30.size
    have hx := hx.keep0 E30
    have O := O.keep0 E30
    have hL := hL.keep0 E30
    have hW := hW.keep0 E30
    have hQ := hQ.keepG (Gr.of0 E30 NoB) (fun _ _ h => h)
    have ht := ht.keep0 E30
    have hO7 := hO7.keep0 E30
    have hO20 := hO20.keep0 E30
    have hb := grow_step0 hb E30
    rcases Bool.eq_false_or_eq_true ((mayL (joinL l (normL t)))) with c41 | c41
    · -- 41T
     rw [c41]
     refine op_not (ev_hit hN rfl) ?_
     refine reg_nil ?_
     refine hK28 _ _ ?_
     refine wp_cond_false (ev_hit hN rfl) ?_
     refine wp_skip ?_
     refine hK27 _ _ ?_
     refine seq_any fun K31 hK31 => ?_
     refine one_reg ?_
     refine op_move (ev_base hN rfl s0) ?_
     refine op_nil (ev_hit hN rfl) ?_
     refine op_field fld134_0 (ev_hit hN rfl) ?_
     refine op_load1 (v := lv) one132 (ev_hit hN rfl) (hx.cell rfl) ?_
     refine op_move (ev_base hN rfl s1) ?_
     refine op_move (ev_hit hN rfl) ?_
     skip
     refine op_index_own (i := i) slt132 (ev_hit hN rfl) O (ev_hit hN rfl) (by omega) (by omega) ?_
     intro b32 o33 lo_b32 hA34
     refine op_field fld137_0 (ev_hit hN rfl) ?_
     have hP37 := O
     refine op_store_own (vs := [v20]) size54 (ev_hit hN rfl) (ev_hit hN rfl) hO20.cl rfl (by simp only [List.all_cons, List.all_nil, Bool.true_and, Bool.and_true, hO20.one]; try rfl) hP37 (hA34.fld 0) (by have := hP37.1; simp only [List.length_cons, List.length_nil]; omega) ?_
     intro w35 hO38 E36
     have z_w35 := E36.size
     have hx := hx.keepO hP37 E36 (by decide)
     have hL := hL.keepT hP37 E36 (by decide)
     have hW := hW.keepT hP37 E36 (by decide)
     have hQ := hQ.keepG (Gr.of E36) dlv0.symm
     have hO7 := hO7.keepT hP37 E36 (by decide)
     have hO20 := hO20.keepT hP37 E36 (by decide)
     have hb := grow_stepX hb E36 rfl
     have hO38 : Own w35 base 137 3 lv n (((C.set i ⟨v20, ow, p, Fi⟩)).flatMap cellsK) := by exact hO38.cast rfl (set_kc hc hi)
     refine reg_nil ?_
     refine hK31 _ _ ?_
     refine seq_any fun K39 hK39 => ?_
     refine one_reg ?_
     refine op_assign rfl ?_
     refine reg_nil ?_
     refine hK39 _ _ ?_
     refine wp_ret ?_
     refine ret1 rfl hd (ev_hit hN rfl) ⟨_, rfl, ?_⟩
     -- path 13F 21F 29F 41T
     have hn8 : (nrm t).length ≤ 8 := Nat.le_of_not_lt fun h => by rw [normE_bad h] at c29; omega
     have hnl : normL t = nrm t := normL_ok (by omega)
     have hr : raiseOk l t = true := by unfold raiseOk; rw [decide_eq_true hn8, Bool.true_and, ← hnl]; exact c41
     obtain ⟨h1, h2⟩ := raise_t hr
     exact ⟨hb, congrArg (Value.int .i64) h2.symm, v20, hO38, (hO20.mono (by omega)).cast (by rw [h1, hnl]) (by rw [h1, hnl]), .inr (fun x hx => (hO20.lt x hx).1)⟩
    · -- 41F
     rw [c41]
     refine op_not (ev_hit hN rfl) ?_
     refine reg_nil ?_
     refine hK28 _ _ ?_
     refine wp_cond_true (ev_hit hN rfl) ?_
     refine seq_any fun K40 hK40 => ?_
     refine one_reg ?_
     refine op_assign rfl ?_
     refine reg_nil ?_
     refine hK40 _ _ ?_
     refine wp_ret (then_ret ( ?_))
     refine ret1 rfl hd (ev_hit hN rfl) ⟨_, rfl, ?_⟩
     -- path 13F 21F 29F 41F
     have hn8 : (nrm t).length ≤ 8 := Nat.le_of_not_lt fun h => by rw [normE_bad h] at c29; omega
     have hnl : normL t = nrm t := normL_ok (by omega)
     have hr : raiseOk l t = false := by unfold raiseOk; rw [decide_eq_true hn8, Bool.true_and, ← hnl]; exact c41
     obtain ⟨h1, h2⟩ := raise_f hr
     exact ⟨hb, congrArg (Value.int .i64) h2.symm, la, by rw [set_kc_same hc hi]; exact O, hL.cast (by rw [h1]) (by rw [h1]), .inl rfl⟩

theorem RaiseOut (tv : Value) {C : List KC} {n k m base : Nat} {lv : Value} {s : Int}  {w : World} (hbase : base ≤ w.heap.size) (hn : n ≤ 6) (hC : C.length = n) (hx : Bx w k 134 [lv, .map (some m)]) (O : Own w base 137 3 lv n (C.flatMap cellsK)) (hs : s < 0 ∨ (n : Int) ≤ s) : Ret Try.prog 44 #[(ptr k 0), (Value.int .i64 s), tv] w (fun v' w' => Below w.heap.size w w' ∧ v' = .int .i64 22) := by
 have hb := Below.refl w.heap.size w
 refine enter (N := 51) Try.func44 rfl rfl (by simp) fun a0 hN hd hA => ?_
 have s0 : a0.tmps.getD 0 undef = (ptr k 0) := hA 0 (by simp)
 have s1 : a0.tmps.getD 1 undef = (Value.int .i64 s) := hA 1 (by simp)
 have s2 : a0.tmps.getD 2 undef = tv := hA 2 (by simp)
 clear hA
 refine seq_any fun K41 hK41 => ?_
 refine one_reg ?_
 refine op_assign rfl ?_
 refine reg_nil ?_
 refine hK41 _ _ ?_
 refine seq_any fun K42 hK42 => ?_
 refine seq_any fun K43 hK43 => ?_
 refine one_reg ?_
 refine op_move (ev_base hN rfl s0) ?_
 refine op_peq_some ptrt50 (ev_hit hN rfl) rfl ?_
 refine reg_nil ?_
 refine hK43 _ _ ?_
 refine wp_cond_false (ev_hit hN rfl) ?_
 refine wp_skip ?_
 refine hK42 _ _ ?_
 refine seq_any fun K44 hK44 => ?_
 refine seq_any fun K45 hK45 => ?_
 refine one_reg ?_
 refine op_move (ev_base hN rfl s1) ?_
 refine op_lss (ev_hit hN rfl) rfl (fun c13 => ?_) (fun c13 => ?_)
 · -- 13T
  refine op_move (ev_hit hN rfl) ?_
  refine g_false (j := 2) (dj := 14) (b := false) rfl rfl rfl (ev_hit hN rfl) rfl rfl ?_
  refine g_false (j := 2) (dj := 14) (b := false) rfl rfl rfl (ev_hit hN rfl) rfl rfl ?_
  refine g_false (j := 2) (dj := 14) (b := false) rfl rfl rfl (ev_hit hN rfl) rfl rfl ?_
  refine g_false (j := 2) (dj := 14) (b := false) rfl rfl rfl (ev_hit hN rfl) rfl rfl ?_
  refine g_false (j := 2) (dj := 14) (b := false) rfl rfl rfl (ev_hit hN rfl) rfl rfl ?_
  refine g_false (j := 2) (dj := 14) (b := false) rfl rfl rfl (ev_hit hN rfl) rfl rfl ?_
  refine g_false (j := 2) (dj := 14) (b := false) rfl rfl rfl (ev_hit hN rfl) rfl rfl ?_
  refine op_pick_t (ev_hit hN rfl) rfl ?_
  refine reg_nil ?_
  refine hK45 _ _ ?_
  refine wp_cond_true (ev_hit hN rfl) ?_
  refine seq_any fun K46 hK46 => ?_
  refine one_reg ?_
  refine op_assign rfl ?_
  refine reg_nil ?_
  refine hK46 _ _ ?_
  refine wp_ret (then_ret ( ?_))
  refine ret1 rfl hd (ev_hit hN rfl) ⟨_, rfl, ?_⟩
  -- path 13T
  exact ⟨hb, rfl⟩
 · -- 13F
  refine op_move (ev_hit hN rfl) ?_
  refine g_true (j := 2) (dj := 14) (b := false) rfl rfl rfl (ev_hit hN rfl) ?_
  refine op_move (ev_base hN rfl s1) ?_
  refine g_true (j := 2) (dj := 14) (b := false) rfl rfl rfl (ev_hit hN rfl) ?_
  refine op_move (ev_base hN rfl s0) ?_
  refine g_true (j := 2) (dj := 14) (b := false) rfl rfl rfl (ev_hit hN rfl) ?_
  refine op_nil (ev_hit hN rfl) ?_
  refine g_true (j := 2) (dj := 14) (b := false) rfl rfl rfl (ev_hit hN rfl) ?_
  refine op_field fld134_0 (ev_hit hN rfl) ?_
  refine g_true (j := 2) (dj := 14) (b := false) rfl rfl rfl (ev_hit hN rfl) ?_
  refine op_load1 (v := lv) one132 (ev_hit hN rfl) (hx.cell rfl) ?_
  refine g_true (j := 2) (dj := 14) (b := false) rfl rfl rfl (ev_hit hN rfl) ?_
  refine op_len_rd Try.underlying132 (ev_hit hN rfl) O.rdw ?_
  refine g_true (j := 2) (dj := 14) (b := false) rfl rfl rfl (ev_hit hN rfl) ?_
  refine op_geq (ev_hit hN rfl) (ev_hit hN rfl) (fun c21 => ?_) (fun c21 => ?_)
  · -- 21T
   refine op_pick_f (ev_hit hN rfl) (ev_hit hN rfl) ?_
   refine reg_nil ?_
   refine hK45 _ _ ?_
   refine wp_cond_true (ev_hit hN rfl) ?_
   refine seq_any fun K47 hK47 => ?_
   refine one_reg ?_
   refine op_assign rfl ?_
   refine reg_nil ?_
   refine hK47 _ _ ?_
   refine wp_ret (then_ret ( ?_))
   refine ret1 rfl hd (ev_hit hN rfl) ⟨_, rfl, ?_⟩
   -- path 13F 21T
   exact ⟨hb, rfl⟩
  · -- 21F
   exfalso; omega

theorem StampIn {k m base : Nat} {lv xv : Value} {x : List UInt16} {M : List (List UInt8 × Int)} {w : World} (hbase : base ≤ w.heap.size) (hxl : x.length ≤ 100) (hxr : RdC w 0 w.heap.size 1 xv x.length (x.map u16v)) (hx : Bx w k 134 [lv, .map (some m)]) (hM : MapC sv (Value.int .u64) w m M) : Ret Try.prog 35 #[(ptr k 0), xv] w (fun v' w' => w.grownBy w' (some m) ∧ v' = .int .u64 (IntKind.u64.wrap (((mget M (putL x)).getD 0) + 1)) ∧ MapC sv (Value.int .u64) w' m (mput M (putL x) (IntKind.u64.wrap (((mget M (putL x)).getD 0) + 1)))) := by
 have hi_k := hx.lt
 have hi_m := hM.lt
 have hnd := hM.nodup (key_str Try.underlying9)
 have hb := grown_refl w (some m)
 refine enter (N := 31) Try.func35 rfl rfl (by simp) fun a0 hN hd hA => ?_
 have s0 : a0.tmps.getD 0 undef = (ptr k 0) := hA 0 (by simp)
 have s1 : a0.tmps.getD 1 undef = xv := hA 1 (by simp)
 clear hA
 refine seq_any fun K52 hK52 => ?_
 refine one_reg ?_
 refine op_assign rfl ?_
 refine reg_nil ?_
 refine hK52 _ _ ?_
 refine seq_any fun K53 hK53 => ?_
 refine seq_any fun K54 hK54 => ?_
 refine one_reg ?_
 refine op_move (ev_base hN rfl s0) ?_
 refine op_peq_some ptrt50 (ev_hit hN rfl) rfl ?_
 refine op_move (ev_hit hN rfl) ?_
 refine g_true (j := 2) (dj := 8) (b := false) rfl rfl rfl (ev_hit hN rfl) ?_
 refine op_move (ev_base hN rfl s0) ?_
 refine g_true (j := 2) (dj := 8) (b := false) rfl rfl rfl (ev_hit hN rfl) ?_
 refine op_nil (ev_hit hN rfl) ?_
 refine g_true (j := 2) (dj := 8) (b := false) rfl rfl rfl (ev_hit hN rfl) ?_
 refine op_field fld134_1 (ev_hit hN rfl) ?_
 refine g_true (j := 2) (dj := 8) (b := false) rfl rfl rfl (ev_hit hN rfl) ?_
 refine op_load1 (v := (Value.map (some m))) one131 (ev_hit hN rfl) (hx.cell rfl) ?_
 refine g_true (j := 2) (dj := 8) (b := false) rfl rfl rfl (ev_hit hN rfl) ?_
 refine op_meq (r := some m) Try.underlying131 (ev_hit hN rfl) rfl ?_
 refine op_pick_f (ev_hit hN rfl) (ev_hit hN rfl) ?_
 refine reg_nil ?_
 refine hK54 _ _ ?_
 refine wp_cond_false (ev_hit hN rfl) ?_
 refine wp_skip ?_
 refine hK53 _ _ ?_
 refine seq_any fun K55 hK55 => ?_
 refine one_reg ?_
 refine op_move (ev_base hN rfl s1) ?_
 have hq56 : RdC w 0 w.heap.size 1 (Value.slice none 0 0) ([] : List UInt8).length (([] : List UInt8).map u8v) := by have hh : RdC w 0 w.heap.size 1 _ _ _ := ((RdC.nil _ 0 0 1).mono (L' := 0) (B' := w.heap.size) (Nat.zero_le _) (by omega)); first | simpa using hh | simpa [Nat.add_comm, Nat.add_left_comm, Nat.add_assoc] using hh | exact hh.cast (by first | rfl | (simp; try omega)) (by first | rfl | (simp; done) | simp [u8v])
 refine op_fn (vs := [(Value.slice none 0 0), xv]) ok79 ⟨rfl, ⟨(ev_hit hN rfl), trivial⟩⟩ (labPut_ret ([] : List UInt8) x _ _ _ (by first | assumption | omega | (simp only [List.length_append, List.length_cons, List.length_nil, List.length_drop, List.length_take]; omega) | (dsimp only; omega) | decide | (simp [keyV, be8_len]; done)) (by first | assumption | omega | (simp only [List.length_append, List.length_cons, List.length_nil, List.length_drop, List.length_take]; omega) | (dsimp only; omega) | decide | (simp [keyV, be8_len]; done)) hq56 (show RdC w 0 w.heap.size 1 xv x.length (x.map u16v) from by have hh : RdC w 0 w.heap.size 1 _ _ _ := (hxr.mono (L' := 0) (B' := w.heap.size) (Nat.zero_le _) (by omega)); first | exact hh | exact hh.cast (by first | omega | (simp; try omega)) (by first | rfl | simp [u16v]))) ?_
 rintro v57 w58 ⟨E59, hO57⟩
 have E59 := grown_of_below E59
 have z_w58 := E59.size
 have hx := hx.keep0 E59
 have hM := hM.keep0 E59
 have hxr := hxr.keep0 E59
 have hb := grow_step0 hb E59
 have hO57 : Own w58 w.heap.size 5 1 v57 (putL x).length ((putL x).map u8v) := (hO57.mono (base' := w.heap.size) (by omega)).cast (by simp) (by simp)
 refine op_str_of (bl := (putL x)) Try.underlying22 Try.underlying5 Try.underlying9 (ev_hit hN rfl) hO57.rdw ?_
 refine op_assign (ev_hit hN rfl) ?_
 refine reg_nil ?_
 refine hK55 _ _ ?_
 refine seq_any fun K60 hK60 => ?_
 refine one_reg ?_
 refine op_move (ev_base hN rfl s0) ?_
 refine op_nil (ev_hit hN rfl) ?_
 refine op_field fld134_1 (ev_hit hN rfl) ?_
 refine op_load1 (v := (Value.map (some m))) one131 (ev_hit hN rfl) (hx.cell rfl) ?_
 refine op_move (ev_hit hN rfl) ?_
 refine op_lookd (k := (putL x)) (z0 := 0) Try.underlying131 (key_str Try.underlying9) zero61 (ev_hit hN rfl) (ev_hit hN rfl) hM ?_
 refine op_add (r := (IntKind.u64.wrap (((mget M (putL x)).getD 0) + 1))) (ev_hit hN rfl) rfl rfl ?_
 have hM_old := hM
 refine op_mapput (k := (putL x)) (v := (IntKind.u64.wrap (((mget M (putL x)).getD 0) + 1))) Try.underlying131 (key_str Try.underlying9) (ev_hit hN rfl) (ev_hit hN rfl) (ev_hit hN rfl) hM ?_
 intro w61 hM63 E62
 have z_w61 := E62.size
 have hx := hx.keepM hM_old E62
 have hxr := hxr.keepM hM_old E62
 have hO57 := hO57.keepM hM_old E62
 have hb := grown_trans hb E62
 refine reg_nil ?_
 refine hK60 _ _ ?_
 refine seq_any fun K64 hK64 => ?_
 refine one_reg ?_
 refine op_move (ev_base hN rfl s0) ?_
 refine op_nil (ev_hit hN rfl) ?_
 refine op_field fld134_1 (ev_hit hN rfl) ?_
 refine op_load1 (v := (Value.map (some m))) one131 (ev_hit hN rfl) (hx.cell rfl) ?_
 refine op_move (ev_hit hN rfl) ?_
 refine op_lookd (k := (putL x)) (z0 := 0) Try.underlying131 (key_str Try.underlying9) zero61 (ev_hit hN rfl) (ev_hit hN rfl) hM63 ?_
 refine op_assign (ev_hit hN rfl) ?_
 refine reg_nil ?_
 refine hK64 _ _ ?_
 refine wp_ret ?_
 refine ret1 rfl hd (ev_hit hN rfl) ⟨_, rfl, ?_⟩
 -- path
 exact ⟨hb, by rw [mget_mput hnd, if_pos rfl]; rfl, hM63⟩

end Go.Proofs.Ytmhdbphpmgjpcaa

/- Small laws for walks, the twenty-ninth part: the first part of a region of open order that has calls which change the world, one after the other. -/
namespace Go.Gx
open Go.RowKit
section
variable {P : Program} {ol : List Oper} {Q : Exit → Act → World → Prop} {Φ : Nat → Value → World → Prop} {C : Nat → Value → World → Prop} {ch : Chain} {R : World → World → Prop} {a0 : Act} {N : Nat}
end
section
variable {P : Program} {ol : List Oper} {Q : Exit → Act → World → Prop} {Φ : Nat → Value → Prop} {G : World → Prop} {a0 : Act} {N : Nat}
end
end Go.Gx

/- Small laws for walks, the thirtieth part: a region of open order with operations one behind the other that change the world and hand back what nobody knows ahead, and light ones beside them. -/
namespace Go.Gx
open Go.RowKit
section
variable {P : Program} {ol : List Oper} {Q : Exit → Act → World → Prop} {E : Type} {Φ : E → Nat → Value → Prop} {C : E → Nat → World → Prop} {ch : Chain} {a0 : Act} {N : Nat}
/-- What a light operation must show, whatever the others handed back. -/
def ObNE (P : Program) (ol : List Oper) (Φ : E → Nat → Value → Prop) (C : E → Nat → World → Prop) (a0 : Act) (N : Nat) (i : Nat) (o : Oper) : Prop :=
  ∀ (e : E) (a : Act) (w : World) (c : Nat), a.tmps.size = N → C e c w → (∀ t, safeB ol i t = true → a.tmps.getD t undef = a0.tmps.getD t undef) → (∀ j oj d, depB ol i j = true → ol[j]? = some oj → oj.dst = some d → Φ e j (a.tmps.getD d undef)) →
    wpList P ol.toArray (fun ex a' w' => ex = .normal ∧ (∃ d v, o.dst = some d ∧ a' = putsL a [(d, v)] ∧ Φ e i v) ∧ w.grownBy w' none) [o] (putsL a []) w
/-- What a great one must show. -/
def ObCE (P : Program) (ol : List Oper) (Φ : E → Nat → Value → Prop) (C : E → Nat → World → Prop) (a0 : Act) (N : Nat) (c i : Nat) (o : Oper) : Prop :=
  ∀ (e : E) (a : Act) (w : World), a.tmps.size = N → (∀ t, safeB ol i t = true → a.tmps.getD t undef = a0.tmps.getD t undef) → (∀ j oj d, depB ol i j = true → ol[j]? = some oj → oj.dst = some d → Φ e j (a.tmps.getD d undef)) → C e c w →
    wpList P ol.toArray (fun ex a' w' => ex = .normal ∧ ∃ e', (∀ j u, Φ e j u → Φ e' j u) ∧ ((o.dst = none ∧ a' = a) ∨ ∃ d v, o.dst = some d ∧ a' = putsL a [(d, v)] ∧ Φ e' i v) ∧ C e' (c + 1) w') [o] (putsL a []) w
theorem region_env_steps (hlex : lexB' ol = true) (hdn : dstNB ol N = true) (hdst : dstsB ol = true) (hch : ch.okB ol = true) (w0 : World)
    (hC : ∀ e c w1 w2, w1.grownBy w2 none → C e c w1 → C e c w2)
    (obN : ∀ i o, ol[i]? = some o → ch.has i = false → ObNE P ol Φ C a0 N i o) (obC : ∀ c i o, ch.ops[c]? = some i → ol[i]? = some o → ObCE P ol Φ C a0 N c i o)
    (fin : ∀ a w e, RInv ol (fun j u _ => Φ e j u) (fun c _ w => C e c w) ch a0 N w0 (fun _ _ => True) (Array.replicate ol.length true) ch.ops.length a w → Q .normal a w) :
    ∀ (fuel : Nat) (listed : Array Bool) (c : Nat) (a : Act) (w : World) (e : E), RInv ol (fun j u _ => Φ e j u) (fun c _ w => C e c w) ch a0 N w0 (fun _ _ => True) listed c a w → (List.range ol.length).countP (fun i => !listed.getD i true) ≤ fuel → wpAny P .any ol.toArray Q fuel listed a w := by
  have hch' := hch
  simp only [Chain.okB, Bool.and_eq_true] at hch'
  obtain ⟨⟨⟨hc1, hc2⟩, hc3⟩, hc4⟩ := hch'
  have done : ∀ (listed : Array Bool) (c : Nat) (a : Act) (w : World) (e : E), RInv ol (fun j u _ => Φ e j u) (fun c _ w => C e c w) ch a0 N w0 (fun _ _ => True) listed c a w → Region.ready .any ol.toArray listed = [] → Q .normal a w := by
    intro listed c a w ee I hr
    have hall : ∀ i, i < ol.length → listed.getD i true = true := by
      intro i
      induction i using Nat.strongRecOn with
      | _ i ih =>
        intro hi
        by_cases hq : listed.getD i true = true
        · exact hq
        · exfalso
          have hm : i ∈ Region.ready .any ol.toArray listed := by
            rw [mem_ready]
            refine ⟨by simpa using hq, ol[i], by simp [hi], fun e he hb => ?_⟩
            have h1 := List.all_eq_true.1 hlex i (by simp [hi])
            simp only [List.getElem?_eq_getElem hi, Array.all_eq_true_iff_forall_mem, Bool.or_eq_true, Bool.not_eq_true', Nat.blt_eq] at h1
            have h2 := (h1 e he).resolve_left (by simp [hb])
            exact getD_true_lt (ih e.on h2 (by omega)) (by rw [I.lsize]; omega)
          rw [hr] at hm
          cases hm
    have hl : listed = Array.replicate ol.length true := by
      apply Array.ext
      · simp [I.lsize]
      · intro i h1 h2
        have := hall i (by simpa using h2)
        simp [Array.getD_eq_getD_getElem?, h1] at this
        simp [this]
    have hcc : c = ch.ops.length := by
      rcases Nat.lt_or_ge c ch.ops.length with h | h
      · exfalso
        have h1 := (I.chain c ch.ops[c] (by simp [h])).1 (hall _ (by
          have := List.all_eq_true.1 hc3 ch.ops[c] (List.getElem_mem h)
          simpa [Nat.blt_eq] using this))
        omega
      · exact Nat.le_antisymm I.cle h
    subst hl; subst hcc
    exact fin a w ee I
  intro fuel
  induction fuel with
  | zero =>
    intro listed c a w ee I hcnt
    have hr : Region.ready .any ol.toArray listed = [] := by
      rw [List.eq_nil_iff_forall_not_mem]
      intro i hi
      obtain ⟨h1, o, ho, _⟩ := mem_ready.1 hi
      have hlt : i < ol.length := by simpa using (Array.getElem?_eq_some_iff.1 ho).1
      have hz : (List.range ol.length).countP (fun i => !listed.getD i true) = 0 := by omega
      rw [List.countP_eq_zero] at hz
      exact hz i (by simp [hlt]) (by simp [h1])
    exact ⟨hr, done listed c a w ee I hr⟩
  | succ fuel ih =>
    intro listed c a w ee I hcnt
    refine ⟨fun hr => done listed c a w ee I hr, fun i hi => ?_⟩
    obtain ⟨hun, o, ho, hwait⟩ := mem_ready.1 hi
    have ho' : ol[i]? = some o := by simpa using ho
    have hlt : i < ol.length := (List.getElem?_eq_some_iff.1 ho').1
    have hls : i < listed.size := by rw [I.lsize]; exact hlt
    have hcnt' : (List.range ol.length).countP (fun j => !(listed.setIfInBounds i true).getD j true) ≤ fuel := by
      have : (List.range ol.length).countP (fun j => !(listed.setIfInBounds i true).getD j true) < (List.range ol.length).countP (fun j => !listed.getD j true) := by
        refine countP_lt _ _ (fun y hy => ?_) _ i (by simp [hlt]) (by simp [hun]) (by simp [Array.getD_eq_getD_getElem?, hls])
        by_cases hiy : i = y
        · subst hiy; simp [Array.getD_eq_getD_getElem?, hls] at hy
        · rwa [getD_set_ne true hiy] at hy
      omega
    have hbase : ∀ t, safeB ol i t = true → a.tmps.getD t undef = a0.tmps.getD t undef := by
      intro t ht
      refine I.base t fun j oj hj hlj hd => ?_
      have h1 := List.all_eq_true.1 ht oj (List.mem_of_getElem? hj)
      simp only [Bool.or_eq_true, bne_iff_ne, ne_eq, Array.any_eq_true, Bool.and_eq_true, beq_iff_eq] at h1
      rcases h1 with h1 | ⟨q, hq, h1, h2⟩
      · exact h1 hd
      · have := getD_of_false (I.closed j oj hj hlj _ (Array.getElem_mem hq) h2)
        rw [h1, hun] at this
        cases this
    have hdep : ∀ j oj d, depB ol i j = true → ol[j]? = some oj → oj.dst = some d → Φ ee j (a.tmps.getD d undef) := by
      intro j oj d hj hoj hd
      obtain ⟨e, he, h1, h2⟩ := depB_spec ho' hj
      exact I.phi j oj d hoj (getD_of_false (by rw [← h1]; exact hwait e he h2)) hd
    have hset : ∀ j, j ≠ i → (listed.setIfInBounds i true).getD j true = listed.getD j true := fun j hj => getD_set_ne true (Ne.symm hj)
    have hseti : (listed.setIfInBounds i true).getD i true = true := by simp [Array.getD_eq_getD_getElem?, hls]
    have hclosed : ∀ j oj, ol[j]? = some oj → (listed.setIfInBounds i true).getD j true = true → ∀ e ∈ oj.after, Region.binds .any e = true → (listed.setIfInBounds i true).getD e.on false = true := by
      intro j oj hoj hlj e he hb
      refine getD_set_true ?_
      by_cases hji : j = i
      · subst hji
        rw [ho'] at hoj; cases hoj
        exact hwait e he hb
      · rw [hset j hji] at hlj
        exact I.closed j oj hoj hlj e he hb
    have hne : ∀ j oj d, ol[j]? = some oj → j ≠ i → o.dst = some d → oj.dst ≠ some d := by
      intro j oj d hoj hji hd hd'
      have hj : j < ol.length := (List.getElem?_eq_some_iff.1 hoj).1
      have h1 := List.all_eq_true.1 (List.all_eq_true.1 hdst i (by simp [hlt])) j (by simp [hj])
      simp only [ho', hoj, Bool.or_eq_true, beq_iff_eq, bne_iff_ne, ne_eq] at h1
      rcases h1 with h1 | h1 | h1
      · exact hji h1.symm
      · exact h1 (by rw [hd, hd'])
      · rw [hd] at h1; cases h1
    -- what is left of the frame, behind a value in slot d
    have hframe : ∀ d v (e' : E), o.dst = some d → (∀ j u, Φ ee j u → Φ e' j u) → Φ e' i v → 
        (∀ t, (∀ j oj, ol[j]? = some oj → (listed.setIfInBounds i true).getD j true = true → oj.dst ≠ some t) → (putsL a [(d, v)]).tmps.getD t undef = a0.tmps.getD t undef) ∧
        (∀ j oj d', ol[j]? = some oj → (listed.setIfInBounds i true).getD j true = true → oj.dst = some d' → Φ e' j ((putsL a [(d, v)]).tmps.getD d' undef)) := by
      intro d v e' hd hR hv
      have hdN : d < a.tmps.size := by
        have h1 := List.all_eq_true.1 hdn o (List.mem_of_getElem? ho')
        simp only [hd, Nat.blt_eq] at h1
        rw [I.size]; exact h1
      refine ⟨fun t ht => ?_, fun j oj d' hoj hlj hd' => ?_⟩
      · have hdt : d ≠ t := fun e => ht i o ho' hseti (by rw [hd, e])
        rw [get_put_ne hdt]
        refine I.base t fun j oj hoj hlj => ?_
        by_cases hji : j = i
        · subst hji; rw [hun] at hlj; cases hlj
        · exact ht j oj hoj (by rw [hset j hji]; exact hlj)
      · by_cases hji : j = i
        · subst hji
          rw [ho'] at hoj; cases hoj
          rw [hd] at hd'; cases hd'
          rw [get_put_eq hdN]
          exact hv
        · rw [hset j hji] at hlj
          have : d ≠ d' := fun e => hne j oj d hoj hji hd (by rw [hd', e])
          rw [get_put_ne this]
          exact hR j _ (I.phi j oj d' hoj hlj hd')
    by_cases hin : ch.has i = true
    · have hmem : i ∈ ch.ops := by simpa [Chain.has] using hin
      obtain ⟨c0, hc0, hci⟩ := List.getElem_of_mem hmem
      have hci' : ch.ops[c0]? = some i := by simp [hc0, hci]
      have hcc : c0 = c := by
        have h1 : ¬ c0 < c := fun h => by
          have := (I.chain c0 i hci').2 h
          rw [hun] at this; cases this
        rcases Nat.lt_or_ge c c0 with h2 | h2
        · exfalso
          have h3 := List.all_eq_true.1 hc1 c0 (by simp [hc0])
          have hz : (c0 == 0) = false := by simp; omega
          have hp : ch.ops.getD (c0 - 1) 0 = ch.ops[c0 - 1] := by simp [List.getD_eq_getElem?_getD, show c0 - 1 < ch.ops.length by omega]
          have hq : ch.ops.getD c0 0 = i := by simp [List.getD_eq_getElem?_getD, hc0, hci]
          rw [hz, hp, hq, Bool.false_or] at h3
          obtain ⟨e, he, h4, h5⟩ := depB_spec ho' h3
          have h6 := getD_of_false (hwait e he h5)
          rw [h4] at h6
          have := (I.chain (c0 - 1) ch.ops[c0 - 1] (by simp [show c0 - 1 < ch.ops.length by omega])).1 h6
          omega
        · omega
      subst hcc
      refine wp_one (by simpa using ho') (obC c0 i o hci' ho' ee a w I.size hbase hdep I.chainC) fun a' w' h => ?_
      obtain ⟨e', hm, h1, h2⟩ := h
      have hchain : ∀ m i', ch.ops[m]? = some i' → ((listed.setIfInBounds i true).getD i' true = true ↔ m < c0 + 1) := by
        intro m i' hm
        by_cases hii : i' = i
        · subst hii
          have : m = c0 := by
            have hnd : ch.ops.Nodup := of_decide_eq_true hc4
            have hmlt : m < ch.ops.length := (List.getElem?_eq_some_iff.1 hm).1
            exact (List.getElem?_inj hmlt hnd).1 (by rw [hm, hci'])
          exact ⟨fun _ => by omega, fun _ => hseti⟩
        · rw [hset i' hii, I.chain m i' hm]
          refine ⟨fun h => by omega, fun h => ?_⟩
          rcases Nat.lt_or_ge m c0 with h' | h'
          · exact h'
          · have : m = c0 := by omega
            subst this
            rw [hci'] at hm; exact absurd (Option.some.inj hm).symm hii
      refine ih _ (c0 + 1) a' w' e' ?_ hcnt'
      rcases h1 with ⟨hd, rfl⟩ | ⟨d, v, hd, rfl, hv⟩
      · refine ⟨I.size, I.defers, fun t ht => ?_, fun j oj d' hoj hlj hd' => ?_, hclosed, by simp [I.lsize], by omega, hchain, h2, trivial⟩
        · refine I.base t fun j oj hoj hlj => ?_
          by_cases hji : j = i
          · subst hji; rw [hun] at hlj; cases hlj
          · exact ht j oj hoj (by rw [hset j hji]; exact hlj)
        · by_cases hji : j = i
          · subst hji
            rw [ho'] at hoj; cases hoj
            rw [hd] at hd'; cases hd'
          · rw [hset j hji] at hlj
            exact hm j _ (I.phi j oj d' hoj hlj hd')
      · obtain ⟨f1, f2⟩ := hframe d v e' hd hm hv
        exact ⟨by rw [putsL_size, I.size], by rw [putsL_defers, I.defers], f1, f2, hclosed, by simp [I.lsize], by omega, hchain, h2, trivial⟩
    · have hin' : ch.has i = false := by simpa using hin
      refine wp_one (by simpa using ho') (obN i o ho' hin' ee a w c I.size I.chainC hbase hdep) fun a' w' h => ?_
      obtain ⟨⟨d, v, hd, rfl, hv⟩, hg⟩ := h
      obtain ⟨f1, f2⟩ := hframe d v ee hd (fun _ _ h => h) hv
      refine ih _ c _ w' ee ⟨by rw [putsL_size, I.size], by rw [putsL_defers, I.defers], f1, f2, hclosed, by simp [I.lsize], I.cle, ?_, hC _ _ w w' hg I.chainC, trivial⟩ hcnt'
      · intro m i' hm
        have hii : i' ≠ i := by
          rintro rfl
          have : ch.has i' = true := by simpa [Chain.has] using List.mem_of_getElem? hm
          rw [hin'] at this; cases this
        rw [hset i' hii]
        exact I.chain m i' hm
end

section
variable {P : Program} {ol : List Oper} {Q : Exit → Act → World → Prop} {ops : List Nat} {φ : Nat → Value → Prop} {G : World → Prop} {a0 : Act} {N : Nat}
/-- What is told of an operation's value: of a great one, which it is of those that were handed back; of a light one, what is told ahead. -/
def PhE (ops : List Nat) (φ : Nat → Value → Prop) (e : List Value) (j : Nat) (u : Value) : Prop := (∀ c : Nat, ops[c]? = some j → e[c]? = some u) ∧ (ops.contains j = false → φ j u)
theorem PhE.mono {e : List Value} {v : Value} {j : Nat} {u : Value} (h : PhE ops φ e j u) : PhE ops φ (e ++ [v]) j u :=
  ⟨fun c hc => by have h1 := h.1 c hc; have hl := (List.getElem?_eq_some_iff.1 h1).1; rw [List.getElem?_append_left hl]; exact h1, h.2⟩
theorem PhE.light {j : Nat} {e : List Value} {u : Value} (hh : ops.contains j = false) (h : φ j u) : PhE ops φ e j u :=
  ⟨fun c hc => by have : ops.contains j = true := by simpa using List.mem_of_getElem? hc
                  exact absurd (this.symm.trans hh) (by decide), fun _ => h⟩
/-- what is left to show, with these great ones still to come -/
def KE (P : Program) (ol : List Oper) (ops : List Nat) (φ : Nat → Value → Prop) (G : World → Prop) (a0 : Act) (N : Nat) (Q : Exit → Act → World → Prop) : List Nat → List Value → World → Prop
  | [], e, w => ∀ w1, w.grownBy w1 none → ∀ a', a'.tmps.size = N → a'.defers = a0.defers → (∀ t, (ol.all fun o => o.dst != some t) = true → a'.tmps.getD t undef = a0.tmps.getD t undef) →
      (∀ j oj d, ol[j]? = some oj → oj.dst = some d → PhE ops φ e j (a'.tmps.getD d undef)) → Q .normal (putsL a' []) w1
  | i :: r, e, w => ∀ w1, w.grownBy w1 none → G w1 → ∀ a, a.tmps.size = N → (∀ t, safeB ol i t = true → a.tmps.getD t undef = a0.tmps.getD t undef) → (∀ j oj d, depB ol i j = true → ol[j]? = some oj → oj.dst = some d → PhE ops φ e j (a.tmps.getD d undef)) →
      ∀ o, ol[i]? = some o → wpList P ol.toArray (fun ex a' w' => ex = .normal ∧ ∃ e', (∀ j u, PhE ops φ e j u → PhE ops φ e' j u) ∧ ((o.dst = none ∧ a' = a) ∨ ∃ d v, o.dst = some d ∧ a' = putsL a [(d, v)] ∧ PhE ops φ e' i v) ∧ (e'.length = e.length + 1 ∧ KE P ol ops φ G a0 N Q r e' w' ∧ G w')) [o] (putsL a []) w1
theorem KE.stable : ∀ {rs : List Nat} {e : List Value} {w w2 : World}, KE P ol ops φ G a0 N Q rs e w → w.grownBy w2 none → KE P ol ops φ G a0 N Q rs e w2
  | [], _, _, _, h, E => fun w1 E1 => h w1 (grown_trans E E1)
  | _ :: _, _, _, _, h, E => fun w1 E1 => h w1 (grown_trans E E1)
/-- what a light operation must show -/
def ObE (P : Program) (ol : List Oper) (ops : List Nat) (φ : Nat → Value → Prop) (G : World → Prop) (a0 : Act) (N : Nat) (i : Nat) (o : Oper) : Prop :=
  ∀ (e : List Value) (a : Act) (w : World), a.tmps.size = N → G w → (∀ t, safeB ol i t = true → a.tmps.getD t undef = a0.tmps.getD t undef) → (∀ j oj d, depB ol i j = true → ol[j]? = some oj → oj.dst = some d → PhE ops φ e j (a.tmps.getD d undef)) →
    wpList P ol.toArray (fun ex a' w' => ex = .normal ∧ (∃ d v, o.dst = some d ∧ a' = putsL a [(d, v)] ∧ PhE ops φ e i v) ∧ w.grownBy w' none) [o] (putsL a []) w
def ObEs (P : Program) (ol : List Oper) (ops : List Nat) (φ : Nat → Value → Prop) (G : World → Prop) (a0 : Act) (N : Nat) : Nat → List Oper → Prop
  | _, [] => True
  | i, o :: r => (ops.contains i = false → ObE P ol ops φ G a0 N i o) ∧ ObEs P ol ops φ G a0 N (i + 1) r
theorem ObEs.nil {i : Nat} : ObEs P ol ops φ G a0 N i [] := trivial
theorem ObEs.cons {i : Nat} {o : Oper} {r : List Oper} (h : ObE P ol ops φ G a0 N i o) (h' : ObEs P ol ops φ G a0 N (i + 1) r) : ObEs P ol ops φ G a0 N i (o :: r) := ⟨fun _ => h, h'⟩
theorem ObEs.pass {i : Nat} {o : Oper} {r : List Oper} (hh : ops.contains i = true) (h' : ObEs P ol ops φ G a0 N (i + 1) r) : ObEs P ol ops φ G a0 N i (o :: r) := ⟨fun h => absurd (hh.symm.trans h) (by decide), h'⟩
theorem ObEs.getx : ∀ {l : List Oper} {i : Nat}, ObEs P ol ops φ G a0 N i l → ∀ j o, l[j]? = some o → ops.contains (i + j) = false → ObE P ol ops φ G a0 N (i + j) o
  | [], _, _, j, o, h, _ => by simp at h
  | o' :: r, i, h, 0, o, hj, hs => by simp at hj; subst hj; exact h.1 hs
  | o' :: r, i, h, j + 1, o, hj, hs => by
    have := ObEs.getx h.2 j o (by simpa using hj) (by rwa [show i + 1 + j = i + (j + 1) by omega])
    rwa [show i + 1 + j = i + (j + 1) by omega] at this
theorem any_env (ops : List Nat) (hlex : lexB' ol = true) (hdn : dstNB ol N = true) (hdst : dstsB ol = true) (hch : (⟨ops, fun _ => N⟩ : Chain).okB ol = true)
    {l : List (Nat × Value)} {w : World} (hN : a0.tmps.size = N) (hG : ∀ w1 w2, w1.grownBy w2 none → G w1 → G w2) (g0 : G w) (obL : ObEs P ol ops φ G (putsL a0 l) N 0 ol) (hdf : (putsL a0 l).defers = a0.defers)
    (main : KE P ol ops φ G (putsL a0 l) N Q ops [] w) : RegAny P ol Q (putsL a0 l) w := by
  have hnd : ops.Nodup := by
    have h := hch; simp only [Chain.okB, Bool.and_eq_true] at h; exact of_decide_eq_true h.2
  have hd : w.grownBy { w with drawn := w.drawn + 1 } none := ⟨rfl, rfl, rfl, Nat.le_refl _, fun _ _ _ => rfl⟩
  have I : RInv ol (fun j u _ => PhE ops φ [] j u) (fun c _ w => ([] : List Value).length = c ∧ KE P ol ops φ G (putsL a0 l) N Q (ops.drop c) [] w ∧ G w) ⟨ops, fun _ => N⟩ (putsL a0 l) N w (fun _ _ => True) (Array.replicate ol.length false) 0 (putsL a0 l) { w with drawn := w.drawn + 1 } := by
    refine ⟨slN hN, rfl, fun _ _ => rfl, fun j o d hj hl => ?_, fun j o hj hl => ?_, by simp, Nat.zero_le _, fun m i hm => ?_, ⟨rfl, main.stable hd, hG _ _ hd g0⟩, trivial⟩
    · have : j < ol.length := (List.getElem?_eq_some_iff.1 hj).1
      simp [Array.getD_eq_getD_getElem?, this] at hl
    · have : j < ol.length := (List.getElem?_eq_some_iff.1 hj).1
      simp [Array.getD_eq_getD_getElem?, this] at hl
    · have h3 : i < ol.length := by
        have hch' := hch
        simp only [Chain.okB, Bool.and_eq_true] at hch'
        have := List.all_eq_true.1 hch'.1.2 i (List.mem_of_getElem? hm)
        simpa [Nat.blt_eq] using this
      simp [Array.getD_eq_getD_getElem?, h3]
  have := region_env_steps (P := P) (Q := Q) (E := List Value) (Φ := fun e j u => PhE ops φ e j u) (C := fun e c w => e.length = c ∧ KE P ol ops φ G (putsL a0 l) N Q (ops.drop c) e w ∧ G w) (ch := ⟨ops, fun _ => N⟩) hlex hdn hdst hch w
    (fun e c w1 w2 E1 h => ⟨h.1, h.2.1.stable E1, hG _ _ E1 h.2.2⟩)
    (fun i o hi hh e a w1 c h1 h2 h3 h4 => by
      have hh' : ops.contains i = false := hh
      have h5 := ObEs.getx obL i o hi (by rw [Nat.zero_add]; exact hh') e a w1 h1 h2.2.2 (by rw [Nat.zero_add]; exact h3) (by rw [Nat.zero_add]; exact h4)
      rw [Nat.zero_add] at h5; exact h5)
    (fun c i o hc hi e a w1 h1 h2 h3 h4 => by
      obtain ⟨hl, hk, hg⟩ := h4
      have hdr : ops.drop c = i :: ops.drop (c + 1) := by
        have hlt : c < ops.length := (List.getElem?_eq_some_iff.1 hc).1
        rw [List.drop_eq_getElem_cons hlt, (List.getElem?_eq_some_iff.1 hc).2]
      rw [hdr] at hk
      subst hl
      exact hk w1 (grown_refl _ _) hg a h1 h2 h3 o hi)
    (fun a' w' e J => by
      have hk := J.chainC.2.1
      rw [List.drop_of_length_le (Nat.le_refl _)] at hk
      exact hk w' (grown_refl _ _) a' J.size (J.defers) (fun t ht => J.base t fun j o hj _ hd' => by
        have := List.all_eq_true.1 ht o (List.mem_of_getElem? hj)
        simp [hd'] at this) (fun j oj d hj hd' => J.phi j oj d hj (by
        have : j < ol.length := (List.getElem?_eq_some_iff.1 hj).1
        simp [Array.getD_eq_getD_getElem?, this]) hd'))
    ol.length (Array.replicate ol.length false) 0 (putsL a0 l) _ [] I (Nat.le_trans (List.countP_le_length) (by simp))
  exact this
theorem ke_end {o : Oper} {i d : Nat} {v : Value} {a : Act} {w : World} {e : List Value} {r : List Nat} (hi : ops[e.length]? = some i) (hnd : ops.Nodup) (hd : o.dst = some d) (g : G w) (h : KE P ol ops φ G a0 N Q r (e ++ [v]) w) :
    wpList P ol.toArray (fun ex a' w' => ex = .normal ∧ ∃ e', (∀ j u, PhE ops φ e j u → PhE ops φ e' j u) ∧ ((o.dst = none ∧ a' = a) ∨ ∃ d v, o.dst = some d ∧ a' = putsL a [(d, v)] ∧ PhE ops φ e' i v) ∧ (e'.length = e.length + 1 ∧ KE P ol ops φ G a0 N Q r e' w' ∧ G w')) [] (putsL a [(d, v)]) w :=
  ⟨rfl, e ++ [v], fun _ _ h => h.mono, .inr ⟨d, v, hd, rfl, fun c' hc' => by
    have : c' = e.length := (List.getElem?_inj (List.getElem?_eq_some_iff.1 hc').1 hnd).1 (by rw [hc', hi])
    subst this; simp, fun hh => by
    have : ops.contains i = true := by simpa using List.mem_of_getElem? hi
    exact absurd (this.symm.trans hh) (by decide)⟩, by simp, h, g⟩
theorem obE_end {o : Oper} {i d : Nat} {v : Value} {a : Act} {w : World} {e : List Value} (hh : ops.contains i = false) (hd : o.dst = some d) (hv : φ i v) :
    wpList P ol.toArray (fun ex a' w' => ex = .normal ∧ (∃ d v, o.dst = some d ∧ a' = putsL a [(d, v)] ∧ PhE ops φ e i v) ∧ w.grownBy w' none) [] (putsL a [(d, v)]) w := ⟨rfl, ⟨d, v, hd, rfl, PhE.light hh hv⟩, grown_refl _ _⟩
end
end Go.Gx

/- Walks, written by a program: what each function of the translation hands back. -/
namespace Go.Proofs.Ytmhdbphpmgjpcaa
open Go.Gx Go.RowKit
attribute [local irreducible] wpList wpStill Code.wp Calls

theorem labMayB_ret (l : List UInt16) (v : Value) (w : World) (hz : l.length ≤ 9223372036854775807) (hl : RdC w 0 w.heap.size 1 v l.length (l.map u16v)) : Ret Try.prog 76 #[v] w (fun v' w' => Below w.heap.size w w' ∧ v' = .bool (mayL l)) := by
 have hb := Below.refl w.heap.size w
 refine enter (N := 10) Try.func76 rfl rfl (by simp) fun a0 hN hd hA => ?_
 have s0 : a0.tmps.getD 0 undef = v := hA 0 (by simp)
 clear hA
 refine seq_any fun K1 hK1 => ?_
 refine one_reg ?_
 refine op_assign rfl ?_
 refine reg_nil ?_
 refine hK1 _ _ ?_
 refine seq_any fun K2 hK2 => ?_
 refine one_reg ?_
 refine op_move (ev_base hN rfl s0) ?_
 refine op_len_rd Try.underlying54 (ev_hit hN rfl) hl ?_
 refine op_leq (ev_hit hN rfl) rfl (fun c5 => ?_) (fun c5 => ?_)
 · -- 5T
  refine op_move (ev_hit hN rfl) ?_
  refine g_true (j := 3) (dj := 6) (b := true) rfl rfl rfl (ev_hit hN rfl) ?_
  refine op_move (ev_base hN rfl s0) ?_
  refine g_true (j := 3) (dj := 6) (b := true) rfl rfl rfl (ev_hit hN rfl) ?_
  refine op_fn (vs := [v]) ok115 ⟨(ev_hit hN rfl), trivial⟩ (rises_ret l _ _ (by first | assumption | omega | (simp only [List.length_append, List.length_cons, List.length_nil, List.length_drop, List.length_take]; omega) | (dsimp only; omega) | decide | (simp [keyV, be8_len]; done)) (show RdC w 0 w.heap.size 1 v l.length (l.map u16v) from by have hh : RdC w 0 w.heap.size 1 _ _ _ := (hl.mono (L' := 0) (B' := w.heap.size) (Nat.zero_le _) (by omega)); first | exact hh | exact hh.cast (by first | omega | (simp; try omega)) (by first | rfl | simp [u16v]))) ?_
  rintro _ w3 ⟨E4, rfl⟩
  have E4 := grown_of_below E4
  have z_w3 := E4.size
  have hl := hl.keep0 E4
  have hb := below_step0 hb E4 hb.size
  refine op_pick_t (ev_hit hN rfl) (ev_hit hN rfl) ?_
  refine op_assign (ev_hit hN rfl) ?_
  refine reg_nil ?_
  refine hK2 _ _ ?_
  refine wp_ret ?_
  refine ret1 rfl hd (ev_hit hN rfl) ⟨_, rfl, ?_⟩
  -- path 5T
  exact ⟨hb, congrArg Value.bool (by unfold mayL; first | (rw [decide_eq_true (show l.length ≤ 8 by omega), Bool.and_true]; done) | (rw [decide_eq_false (show ¬ l.length ≤ 8 by omega), Bool.and_false]))⟩
 · -- 5F
  refine op_move (ev_hit hN rfl) ?_
  refine g_false (j := 3) (dj := 6) (b := true) rfl rfl rfl (ev_hit hN rfl) rfl rfl ?_
  refine g_false (j := 3) (dj := 6) (b := true) rfl rfl rfl (ev_hit hN rfl) rfl rfl ?_
  refine op_pick_f (ev_hit hN rfl) rfl ?_
  refine op_assign (ev_hit hN rfl) ?_
  refine reg_nil ?_
  refine hK2 _ _ ?_
  refine wp_ret ?_
  refine ret1 rfl hd (ev_hit hN rfl) ⟨_, rfl, ?_⟩
  -- path 5F
  exact ⟨hb, congrArg Value.bool (by unfold mayL; first | (rw [decide_eq_true (show l.length ≤ 8 by omega), Bool.and_true]; done) | (rw [decide_eq_false (show ¬ l.length ≤ 8 by omega), Bool.and_false]))⟩

theorem kernNew_ret (L : List CSn) (q : Int) (vL : Value) (w : World) (hL : L.length ≤ 9223372036854775807) (hll : ∀ x ∈ L, x.1.2.length ≤ 9223372036854775807 ∧ x.2.2.length ≤ 9223372036854775807) (hr : RdC w 0 w.heap.size 2 vL L.length (L.flatMap cells2)) (hlab : ∀ x9 ∈ (L.map Prod.fst), RdC w 0 w.heap.size 1 x9.1 x9.2.length (x9.2.map u16v)) (hown : ∀ x9 ∈ (L.map Prod.snd), RdC w 0 w.heap.size 1 x9.1 x9.2.length (x9.2.map u16v)) : Ret Try.prog 32 #[(Value.agg #[vL, (Value.int .i64 q)])] w (fun v' w' => Below w.heap.size w w' ∧ ((cfgOk L q = false ∧ v' = .tuple #[.pointer none, .int .i64 1]) ∨ (cfgOk L q = true ∧ ∃ (k : Nat) (F : Nat → Prop), v' = .tuple #[ptr k 0, .int .i64 0] ∧ KernR w' w.heap.size k (L.map ksOf) [] F))) := by
 have hb := Below.refl w.heap.size w
 refine enter (N := 66) Try.func32 rfl rfl (by simp) fun a0 hN hd hA => ?_
 have s0 : a0.tmps.getD 0 undef = (Value.agg #[vL, (Value.int .i64 q)]) := hA 0 (by simp)
 clear hA
 refine seq_any fun K5 hK5 => ?_
 refine one_reg ?_
 refine op_box (cs := [vL, (Value.int .i64 q)]) (ev_base hN rfl s0) rfl ?_
 intro w6 b7 lo_b7 hi_b7 hB9 E8
 have z_w6 := E8.size
 have hr := hr.keep0 E8
 have hlab : ∀ x9 ∈ (L.map Prod.fst), RdC w6 0 w.heap.size 1 x9.1 x9.2.length (x9.2.map u16v) := fun x9 hx9 => (hlab x9 hx9).keep0 E8
 have hown : ∀ x9 ∈ (L.map Prod.snd), RdC w6 0 w.heap.size 1 x9.1 x9.2.length (x9.2.map u16v) := fun x9 hx9 => (hown x9 hx9).keep0 E8
 have hb := below_step0 hb E8 hb.size
 refine op_assign rfl ?_
 refine op_assign rfl ?_
 refine reg_nil ?_
 refine hK5 _ _ ?_
 refine seq_any fun K10 hK10 => ?_
 refine seq_any fun K11 hK11 => ?_
 refine one_reg ?_
 refine op_field fld59_0 (ev_hit hN rfl) ?_
 refine op_load1 (v := vL) one57 (ev_hit hN rfl) (hB9.cell rfl) ?_
 refine op_len_rd Try.underlying57 (ev_hit hN rfl) hr ?_
 refine op_assign (ev_hit hN rfl) ?_
 refine reg_nil ?_
 refine hK11 _ _ ?_
 refine seq_any fun K12 hK12 => ?_
 refine one_reg ?_
 refine op_move (ev_hit hN rfl) ?_
 refine op_eql (ev_hit hN rfl) rfl (fun c12 => ?_) (fun c12 => ?_)
 · -- 12T
  refine op_move (ev_hit hN rfl) ?_
  refine g_false (j := 2) (dj := 13) (b := false) rfl rfl rfl (ev_hit hN rfl) rfl rfl ?_
  refine g_false (j := 2) (dj := 13) (b := false) rfl rfl rfl (ev_hit hN rfl) rfl rfl ?_
  refine op_pick_t (ev_hit hN rfl) rfl ?_
  refine op_move (ev_hit hN rfl) ?_
  refine g_false (j := 6) (dj := 17) (b := false) rfl rfl rfl (ev_hit hN rfl) rfl rfl ?_
  refine g_false (j := 6) (dj := 17) (b := false) rfl rfl rfl (ev_hit hN rfl) rfl rfl ?_
  refine g_false (j := 6) (dj := 17) (b := false) rfl rfl rfl (ev_hit hN rfl) rfl rfl ?_
  refine op_pick_t (ev_hit hN rfl) rfl ?_
  refine op_move (ev_hit hN rfl) ?_
  refine g_false (j := 11) (dj := 22) (b := false) rfl rfl rfl (ev_hit hN rfl) rfl rfl ?_
  refine g_false (j := 11) (dj := 22) (b := false) rfl rfl rfl (ev_hit hN rfl) rfl rfl ?_
  refine g_false (j := 11) (dj := 22) (b := false) rfl rfl rfl (ev_hit hN rfl) rfl rfl ?_
  refine op_pick_t (ev_hit hN rfl) rfl ?_
  refine reg_nil ?_
  refine hK12 _ _ ?_
  refine wp_cond_true (ev_hit hN rfl) ?_
  refine seq_any fun K13 hK13 => ?_
  refine one_reg ?_
  refine op_assign rfl ?_
  refine op_assign rfl ?_
  refine reg_nil ?_
  refine hK13 _ _ ?_
  refine wp_ret (then_ret ( ?_))
  refine ret2 rfl hd (ev_hit hN rfl) (ev_hit hN rfl) ⟨_, rfl, ?_⟩
  -- path 12T
  exact ⟨hb, .inl ⟨cfg_f1 (by omega), rfl⟩⟩
 · -- 12F
  refine op_move (ev_hit hN rfl) ?_
  refine g_true (j := 2) (dj := 13) (b := false) rfl rfl rfl (ev_hit hN rfl) ?_
  refine op_move (ev_hit hN rfl) ?_
  refine g_true (j := 2) (dj := 13) (b := false) rfl rfl rfl (ev_hit hN rfl) ?_
  refine op_gtr (ev_hit hN rfl) rfl (fun c15 => ?_) (fun c15 => ?_)
  · -- 15T
   refine op_pick_f (ev_hit hN rfl) (ev_hit hN rfl) ?_
   refine op_move (ev_hit hN rfl) ?_
   refine g_false (j := 6) (dj := 17) (b := false) rfl rfl rfl (ev_hit hN rfl) rfl rfl ?_
   refine g_false (j := 6) (dj := 17) (b := false) rfl rfl rfl (ev_hit hN rfl) rfl rfl ?_
   refine g_false (j := 6) (dj := 17) (b := false) rfl rfl rfl (ev_hit hN rfl) rfl rfl ?_
   refine op_pick_t (ev_hit hN rfl) rfl ?_
   refine op_move (ev_hit hN rfl) ?_
   refine g_false (j := 11) (dj := 22) (b := false) rfl rfl rfl (ev_hit hN rfl) rfl rfl ?_
   refine g_false (j := 11) (dj := 22) (b := false) rfl rfl rfl (ev_hit hN rfl) rfl rfl ?_
   refine g_false (j := 11) (dj := 22) (b := false) rfl rfl rfl (ev_hit hN rfl) rfl rfl ?_
   refine op_pick_t (ev_hit hN rfl) rfl ?_
   refine reg_nil ?_
   refine hK12 _ _ ?_
   refine wp_cond_true (ev_hit hN rfl) ?_
   refine seq_any fun K14 hK14 => ?_
   refine one_reg ?_
   refine op_assign rfl ?_
   refine op_assign rfl ?_
   refine reg_nil ?_
   refine hK14 _ _ ?_
   refine wp_ret (then_ret ( ?_))
   refine ret2 rfl hd (ev_hit hN rfl) (ev_hit hN rfl) ⟨_, rfl, ?_⟩
   -- path 12F 15T
   exact ⟨hb, .inl ⟨cfg_f1 (by omega), rfl⟩⟩
  · -- 15F
   refine op_pick_f (ev_hit hN rfl) (ev_hit hN rfl) ?_
   refine op_move (ev_hit hN rfl) ?_
   refine g_true (j := 6) (dj := 17) (b := false) rfl rfl rfl (ev_hit hN rfl) ?_
   refine op_field fld59_1 (ev_hit hN rfl) ?_
   refine g_true (j := 6) (dj := 17) (b := false) rfl rfl rfl (ev_hit hN rfl) ?_
   refine op_load1 (v := (Value.int .i64 q)) one3 (ev_hit hN rfl) (hB9.cell rfl) ?_
   refine g_true (j := 6) (dj := 17) (b := false) rfl rfl rfl (ev_hit hN rfl) ?_
   refine op_lss (ev_hit hN rfl) rfl (fun c20 => ?_) (fun c20 => ?_)
   · -- 20T
    refine op_pick_f (ev_hit hN rfl) (ev_hit hN rfl) ?_
    refine op_move (ev_hit hN rfl) ?_
    refine g_false (j := 11) (dj := 22) (b := false) rfl rfl rfl (ev_hit hN rfl) rfl rfl ?_
    refine g_false (j := 11) (dj := 22) (b := false) rfl rfl rfl (ev_hit hN rfl) rfl rfl ?_
    refine g_false (j := 11) (dj := 22) (b := false) rfl rfl rfl (ev_hit hN rfl) rfl rfl ?_
    refine op_pick_t (ev_hit hN rfl) rfl ?_
    refine reg_nil ?_
    refine hK12 _ _ ?_
    refine wp_cond_true (ev_hit hN rfl) ?_
    refine seq_any fun K15 hK15 => ?_
    refine one_reg ?_
    refine op_assign rfl ?_
    refine op_assign rfl ?_
    refine reg_nil ?_
    refine hK15 _ _ ?_
    refine wp_ret (then_ret ( ?_))
    refine ret2 rfl hd (ev_hit hN rfl) (ev_hit hN rfl) ⟨_, rfl, ?_⟩
    -- path 12F 15F 20T
    exact ⟨hb, .inl ⟨cfg_f1 (by omega), rfl⟩⟩
   · -- 20F
    refine op_pick_f (ev_hit hN rfl) (ev_hit hN rfl) ?_
    refine op_move (ev_hit hN rfl) ?_
    refine g_true (j := 11) (dj := 22) (b := false) rfl rfl rfl (ev_hit hN rfl) ?_
    refine op_field fld59_1 (ev_hit hN rfl) ?_
    refine g_true (j := 11) (dj := 22) (b := false) rfl rfl rfl (ev_hit hN rfl) ?_
    refine op_load1 (v := (Value.int .i64 q)) one3 (ev_hit hN rfl) (hB9.cell rfl) ?_
    refine g_true (j := 11) (dj := 22) (b := false) rfl rfl rfl (ev_hit hN rfl) ?_
    refine op_gtr (ev_hit hN rfl) rfl (fun c25 => ?_) (fun c25 => ?_)
    · -- 25T
     refine op_pick_f (ev_hit hN rfl) (ev_hit hN rfl) ?_
     refine reg_nil ?_
     refine hK12 _ _ ?_
     refine wp_cond_true (ev_hit hN rfl) ?_
     refine seq_any fun K16 hK16 => ?_
     refine one_reg ?_
     refine op_assign rfl ?_
     refine op_assign rfl ?_
     refine reg_nil ?_
     refine hK16 _ _ ?_
     refine wp_ret (then_ret ( ?_))
     refine ret2 rfl hd (ev_hit hN rfl) (ev_hit hN rfl) ⟨_, rfl, ?_⟩
     -- path 12F 15F 20F 25T
     exact ⟨hb, .inl ⟨cfg_f1 (by omega), rfl⟩⟩
    · -- 25F
     refine op_pick_f (ev_hit hN rfl) (ev_hit hN rfl) ?_
     refine reg_nil ?_
     refine hK12 _ _ ?_
     refine wp_cond_false (ev_hit hN rfl) ?_
     refine wp_skip ?_
     refine hK10 _ _ ?_
     refine seq_any fun K17 hK17 => ?_
     refine one_reg ?_
     refine op_mkmap (kv := sv) (vv := (Value.int .u64)) ?_
     intro w18 m20 lo_m20 hi_m20 hM21 E19
     have z_w18 := E19.size
     have hr := hr.keep0 E19
     have hlab : ∀ x9 ∈ (L.map Prod.fst), RdC w18 0 w.heap.size 1 x9.1 x9.2.length (x9.2.map u16v) := fun x9 hx9 => (hlab x9 hx9).keep0 E19
     have hown : ∀ x9 ∈ (L.map Prod.snd), RdC w18 0 w.heap.size 1 x9.1 x9.2.length (x9.2.map u16v) := fun x9 hx9 => (hown x9 hx9).keep0 E19
     have hB9 := hB9.keep0 E19
     have hb := below_step0 hb E19 hb.size
     refine op_build (pv := [(1, (Value.map (some m20)))]) (v := (Value.agg #[(Value.slice none 0 0), (Value.map (some m20))])) ⟨rfl, (ev_hit hN rfl), trivial⟩ (by kernel_rfl) ?_
     refine op_box (cs := [(Value.slice none 0 0), (Value.map (some m20))]) (ev_hit hN rfl) rfl ?_
     intro w22 b23 lo_b23 hi_b23 hB25 E24
     have z_w22 := E24.size
     have hr := hr.keep0 E24
     have hlab : ∀ x9 ∈ (L.map Prod.fst), RdC w22 0 w.heap.size 1 x9.1 x9.2.length (x9.2.map u16v) := fun x9 hx9 => (hlab x9 hx9).keep0 E24
     have hown : ∀ x9 ∈ (L.map Prod.snd), RdC w22 0 w.heap.size 1 x9.1 x9.2.length (x9.2.map u16v) := fun x9 hx9 => (hown x9 hx9).keep0 E24
     have hB9 := hB9.keep0 E24
     have hM21 := hM21.keep0 E24
     have hb := below_step0 hb E24 hb.size
     refine op_assign (ev_hit hN rfl) ?_
     refine reg_nil ?_
     refine hK17 _ _ ?_
     refine seq_any fun K26 hK26 => ?_
     refine seq_any fun K27 hK27 => ?_
     refine one_reg ?_
     refine op_field fld59_0 (ev_hit hN rfl) ?_
     refine op_load1 (v := vL) one57 (ev_hit hN rfl) (hB9.cell rfl) ?_
     refine op_len_rd Try.underlying57 (ev_hit hN rfl) hr ?_
     refine op_move rfl ?_
     refine reg_nil ?_
     refine hK27 _ _ ?_
     refine wp_block ?_
     refine loop_m (fun mz_ az_ w' => ∃ (i : Nat) (lv : Value) (C : List KC) (F0S : Nat → Prop), mz_ = L.length - i ∧ (az_.tmps.getD 5 undef = (ptr b23 0)) ∧ (az_.tmps.getD 31 undef = vL) ∧ (az_.tmps.getD 32 undef = (Value.int .i64 ((L.length : Nat) : Int))) ∧ (az_.tmps.getD 33 undef = (Value.int .i64 ((i : Nat) : Int))) ∧ (i ≤ L.length) ∧ (C.length = i) ∧ (∀ j, j < i → mayL ((L.map Prod.fst).getD j D2).2 = true ∧ mayL ((L.map Prod.snd).getD j D2).2 = true) ∧ (Below w.heap.size w w') ∧ (w22.heap.size ≤ w'.heap.size) ∧ (RdC w' 0 w.heap.size 2 vL L.length (L.flatMap cells2)) ∧ (∀ x9 ∈ (L.map Prod.fst), RdC w' 0 w.heap.size 1 x9.1 x9.2.length (x9.2.map u16v)) ∧ (∀ x9 ∈ (L.map Prod.snd), RdC w' 0 w.heap.size 1 x9.1 x9.2.length (x9.2.map u16v)) ∧ (Bx w' b7 59 [vL, (Value.int .i64 q)]) ∧ (MapC sv (Value.int .u64) w' m20 ([] : List (List UInt8 × Int))) ∧ (Bx w' b23 134 [lv, (Value.map (some m20))]) ∧ (SessAll w' w.heap.size ((L.take i).map ksOf) C F0S) ∧ (Own w' w.heap.size 137 3 lv i (C.flatMap cellsK))) _ hN hd ⟨0, (Value.slice none 0 0), [], NoB, rfl, (sl_hit hN rfl), (sl_hit hN rfl), (sl_hit hN rfl), (sl_hit hN rfl), (Nat.zero_le _), rfl, (fun _ h => absurd h (Nat.not_lt_zero _)), hb, (Nat.le_refl _), hr, hlab, hown, hB9, hM21, hB25, (SessAll.nil _ _), (Own.nil _ _ _ _)⟩ ?_
     rintro _ a28 w28 hN28 hd28 ⟨i, lv, C, F0S, rfl, s28_5, s28_31, s28_32, s28_33, hi, hC, hmay, hb, zl_w28, hr, hlab, hown, hB9, hM21, hxk, hS, hO29⟩
     have z_w28 := hb.size
     refine seq_any fun K30 hK30 => ?_
     refine one_reg ?_
     have dj31 := hS.notBx hB9 (by decide) (by decide) (by decide)
     have dj32 := hS.notMap hM21
     have dj33 := hS.notBx hxk (by decide) (by decide) (by decide)
     have dj34 := hS.notOwn hO29 (by decide) (by decide) (by decide)
     refine op_lss (ev_base hN28 rfl s28_33) (ev_base hN28 rfl s28_32) (fun c34 => ?_) (fun c34 => ?_)
     · -- 34T
      refine reg_nil ?_
      refine hK30 _ _ ?_
      refine seq_any fun K35 hK35 => ?_
      refine wp_cond_true (ev_hit hN28 rfl) ?_
      refine wp_skip ?_
      refine hK35 _ _ ?_
      refine seq_any fun K36 hK36 => ?_
      refine wp_block ?_
      refine seq_any fun K37 hK37 => ?_
      refine one_reg ?_
      refine op_index_rd slt57 (ev_base hN28 rfl s28_31) hr (ev_base hN28 rfl s28_33) (by omega) (by omega) ?_
      intro b38 o39 h0b38 h1b38 hc40
      have hla : RdC w28 0 w.heap.size 1 ((L.map Prod.fst).getD i D2).1 ((L.map Prod.fst).getD i D2).2.length (((L.map Prod.fst).getD i D2).2.map u16v) := hlab _ (getD_mem (by simp; omega))
      have how : RdC w28 0 w.heap.size 1 ((L.map Prod.snd).getD i D2).1 ((L.map Prod.snd).getD i D2).2.length (((L.map Prod.snd).getD i D2).2.map u16v) := hown _ (getD_mem (by simp; omega))
      have hlL := cs_len hll (show i < L.length by omega)
      refine op_loadA (cs := [((L.map Prod.fst).getD i D2).1, ((L.map Prod.snd).getD i D2).1]) agg56 rfl (ev_hit hN28 rfl) (fun j u hu => hc40 j u (by have := (List.getElem?_eq_some_iff.1 hu).1; simpa using this) ((el_cs (i := i) (by omega) (by omega)) j u hu)) ?_
      refine op_alloc (cs := [(Value.slice none 0 0), (Value.slice none 0 0)]) zero56 rfl ?_
      intro w41 b42 lo_b42 hi_b42 hB44 E43
      have dj45 : ¬ F0S b42 := fun hf => by have := (hS.lt _ hf).2; omega
      have z_w41 := E43.size
      have hr := hr.keep0 E43
      have hlab : ∀ x9 ∈ (L.map Prod.fst), RdC w41 0 w.heap.size 1 x9.1 x9.2.length (x9.2.map u16v) := fun x9 hx9 => (hlab x9 hx9).keep0 E43
      have hown : ∀ x9 ∈ (L.map Prod.snd), RdC w41 0 w.heap.size 1 x9.1 x9.2.length (x9.2.map u16v) := fun x9 hx9 => (hown x9 hx9).keep0 E43
      have hB9 := hB9.keep0 E43
      have hM21 := hM21.keep0 E43
      have hxk := hxk.keep0 E43
      have hS := hS.keepG (Gr.of0 E43 NoB) (fun _ _ h => h)
      have hO29 := hO29.keep0 E43
      have hla := hla.keep0 E43
      have how := how.keep0 E43
      have hb := below_step0 hb E43 hb.size
      have hB44_old := hB44
      refine op_store (vs := [((L.map Prod.fst).getD i D2).1, ((L.map Prod.snd).getD i D2).1]) (cs' := [((L.map Prod.fst).getD i D2).1, ((L.map Prod.snd).getD i D2).1]) size56 (ev_hit hN28 rfl) (ev_hit hN28 rfl) rfl rfl (by simp only [List.all_cons, List.all_nil, Bool.true_and, Bool.and_true, hla.one, how.one]; try rfl) hB44 (Nat.le_of_ble_eq_true rfl) rfl ?_
      intro w48 hB44 E49
      have z_w48 := E49.size
      have hr := hr.keep E49 (fun k hk => .inr (by simp at hk; omega))
      have hlab : ∀ x9 ∈ (L.map Prod.fst), RdC w48 0 w.heap.size 1 x9.1 x9.2.length (x9.2.map u16v) := fun x9 hx9 => (hlab x9 hx9).keep E49 (fun k hk => .inr (by simp at hk; omega))
      have hown : ∀ x9 ∈ (L.map Prod.snd), RdC w48 0 w.heap.size 1 x9.1 x9.2.length (x9.2.map u16v) := fun x9 hx9 => (hown x9 hx9).keep E49 (fun k hk => .inr (by simp at hk; omega))
      have hB9 := hB9.keep E49 (by simp; omega)
      have hM21 := hM21.keepB hB44_old E49
      have hxk := hxk.keep E49 (by simp; omega)
      have hS := hS.keepG (Gr.of E49) (Dj.one dj45)
      have hO29 := hO29.keepX hB44_old E49 (by decide)
      have hla := hla.keep E49 (fun k hk => .inr (by simp at hk; omega))
      have how := how.keep E49 (fun k hk => .inr (by simp at hk; omega))
      have hb := below_step1 hb E49 hb.size (by omega)
      refine reg_nil ?_
      refine hK37 _ _ ?_
      refine seq_any fun K50 hK50 => ?_
      refine seq_any fun K51 hK51 => ?_
      refine one_reg ?_
      refine op_field fld56_0 (ev_hit hN28 rfl) ?_
      refine op_load1 (v := ((L.map Prod.fst).getD i D2).1) one54 (ev_hit hN28 rfl) (hB44.cell rfl) ?_
      refine op_fn (vs := [((L.map Prod.fst).getD i D2).1]) ok76 ⟨(ev_hit hN28 rfl), trivial⟩ (labMayB_ret ((L.map Prod.fst).getD i D2).2 _ _ (by first | assumption | omega | (simp only [List.length_append, List.length_cons, List.length_nil, List.length_drop, List.length_take]; omega) | (dsimp only; omega) | decide | (simp [keyV, be8_len]; done)) (show RdC w48 0 w48.heap.size 1 ((L.map Prod.fst).getD i D2).1 ((L.map Prod.fst).getD i D2).2.length (((L.map Prod.fst).getD i D2).2.map u16v) from by have hh : RdC w48 0 w48.heap.size 1 _ _ _ := (hla.mono (L' := 0) (B' := w48.heap.size) (Nat.zero_le _) (by omega)); first | exact hh | exact hh.cast (by first | omega | (simp; try omega)) (by first | rfl | simp [u16v]))) ?_
      rintro _ w52 ⟨E53, rfl⟩
      have E53 := grown_of_below E53
      have z_w52 := E53.size
      have hr := hr.keep0 E53
      have hlab : ∀ x9 ∈ (L.map Prod.fst), RdC w52 0 w.heap.size 1 x9.1 x9.2.length (x9.2.map u16v) := fun x9 hx9 => (hlab x9 hx9).keep0 E53
      have hown : ∀ x9 ∈ (L.map Prod.snd), RdC w52 0 w.heap.size 1 x9.1 x9.2.length (x9.2.map u16v) := fun x9 hx9 => (hown x9 hx9).keep0 E53
      have hB9 := hB9.keep0 E53
      have hM21 := hM21.keep0 E53
      have hxk := hxk.keep0 E53
      have hS := hS.keepG (Gr.of0 E53 NoB) (fun _ _ h => h)
      have hO29 := hO29.keep0 E53
      have hla := hla.keep0 E53
      have how := how.keep0 E53
      have hB44 := hB44.keep0 E53
      have hb := below_step0 hb E53 hb.size
      rcases Bool.eq_false_or_eq_true ((mayL ((L.map Prod.fst).getD i D2).2)) with c39 | c39
      · -- 39T
       rw [c39]
       refine op_not (ev_hit hN28 rfl) ?_
       refine op_move (ev_hit hN28 rfl) ?_
       refine g_true (j := 4) (dj := 41) (b := false) rfl rfl rfl (ev_hit hN28 rfl) ?_
       refine op_field fld56_1 (ev_hit hN28 rfl) ?_
       refine g_true (j := 4) (dj := 41) (b := false) rfl rfl rfl (ev_hit hN28 rfl) ?_
       refine op_load1 (v := ((L.map Prod.snd).getD i D2).1) one54 (ev_hit hN28 rfl) (hB44.cell rfl) ?_
       refine g_true (j := 4) (dj := 41) (b := false) rfl rfl rfl (ev_hit hN28 rfl) ?_
       refine op_fn (vs := [((L.map Prod.snd).getD i D2).1]) ok76 ⟨(ev_hit hN28 rfl), trivial⟩ (labMayB_ret ((L.map Prod.snd).getD i D2).2 _ _ (by first | assumption | omega | (simp only [List.length_append, List.length_cons, List.length_nil, List.length_drop, List.length_take]; omega) | (dsimp only; omega) | decide | (simp [keyV, be8_len]; done)) (show RdC w52 0 w52.heap.size 1 ((L.map Prod.snd).getD i D2).1 ((L.map Prod.snd).getD i D2).2.length (((L.map Prod.snd).getD i D2).2.map u16v) from by have hh : RdC w52 0 w52.heap.size 1 _ _ _ := (how.mono (L' := 0) (B' := w52.heap.size) (Nat.zero_le _) (by omega)); first | exact hh | exact hh.cast (by first | omega | (simp; try omega)) (by first | rfl | simp [u16v]))) ?_
       rintro _ w54 ⟨E55, rfl⟩
       have E55 := grown_of_below E55
       have z_w54 := E55.size
       have hr := hr.keep0 E55
       have hlab : ∀ x9 ∈ (L.map Prod.fst), RdC w54 0 w.heap.size 1 x9.1 x9.2.length (x9.2.map u16v) := fun x9 hx9 => (hlab x9 hx9).keep0 E55
       have hown : ∀ x9 ∈ (L.map Prod.snd), RdC w54 0 w.heap.size 1 x9.1 x9.2.length (x9.2.map u16v) := fun x9 hx9 => (hown x9 hx9).keep0 E55
       have hB9 := hB9.keep0 E55
       have hM21 := hM21.keep0 E55
       have hxk := hxk.keep0 E55
       have hS := hS.keepG (Gr.of0 E55 NoB) (fun _ _ h => h)
       have hO29 := hO29.keep0 E55
       have hla := hla.keep0 E55
       have how := how.keep0 E55
       have hB44 := hB44.keep0 E55
       have hb := below_step0 hb E55 hb.size
       rcases Bool.eq_false_or_eq_true ((mayL ((L.map Prod.snd).getD i D2).2)) with c44 | c44
       · -- 44T
        rw [c44]
        refine g_true (j := 4) (dj := 41) (b := false) rfl rfl rfl (ev_hit hN28 rfl) ?_
        refine op_not (ev_hit hN28 rfl) ?_
        refine op_pick_f (ev_hit hN28 rfl) (ev_hit hN28 rfl) ?_
        refine reg_nil ?_
        refine hK51 _ _ ?_
        refine wp_cond_false (ev_hit hN28 rfl) ?_
        refine wp_skip ?_
        refine hK50 _ _ ?_
        have hm8 := mayL_len c39
        have ho8 := mayL_len c44
        refine reg_split (hd := [_, _, _, _, _, _, _, _, _, _, _, _, _, _, _]) (tl := _) 15 mixed (by kernel_rfl) rfl rfl ?_
        refine any_env (φ := phiV [(fun uz => uz = (ptr b23 0)), (fun uz => uz = (ptr b23 0)), (fun uz => uz = (ptr b23 0)), (fun uz => uz = (ptr b23 0)), (fun uz => uz = lv), (fun uz => uz = (ptr b42 0)), (fun uz => uz = ((L.map Prod.fst).getD i D2).1), (fun _ => True), (fun uz => uz = (ptr b42 1)), (fun uz => uz = ((L.map Prod.snd).getD i D2).1), (fun _ => True), (fun _ => True), (fun _ => True), (fun _ => True), (fun _ => True)]) (G := fun w' => Bx w' b23 134 [lv, (Value.map (some m20))] ∧ Bx w' b42 56 [((L.map Prod.fst).getD i D2).1, ((L.map Prod.snd).getD i D2).1]) [7, 10, 11, 12, 13, 14] (by kernel_rfl) (by kernel_rfl) (by kernel_rfl) (by kernel_rfl) hN28 (fun w1 w2 E h => by obtain ⟨h0, h1⟩ := h; exact ⟨h0.keep0 E, h1.keep0 E⟩) ⟨hxk, hB44⟩ (ObEs.cons ?_ (ObEs.cons ?_ (ObEs.cons ?_ (ObEs.cons ?_ (ObEs.cons ?_ (ObEs.cons ?_ (ObEs.cons ?_ (ObEs.pass rfl (ObEs.cons ?_ (ObEs.cons ?_ (ObEs.pass rfl (ObEs.pass rfl (ObEs.pass rfl (ObEs.pass rfl (ObEs.pass rfl (ObEs.nil)))))))))))))))) (by simp only [putsL_defers]) ?_
        ·
         intro eA aA wA hNA hGA hbsA hdpA
         have qA_5 := (hbsA 5 rfl).trans (sl_base hN28 rfl s28_5)
         refine op_move (ev_base hNA rfl qA_5) ?_
         exact obE_end rfl rfl rfl
        ·
         intro eA aA wA hNA hGA hbsA hdpA
         have qA_5 := (hbsA 5 rfl).trans (sl_base hN28 rfl s28_5)
         refine op_move (ev_base hNA rfl qA_5) ?_
         exact obE_end rfl rfl rfl
        ·
         intro eA aA wA hNA hGA hbsA hdpA
         have qA_48 : Sl aA 48 (ptr b23 0) := (hdpA 1 _ 48 (by kernel_rfl) rfl rfl).2 rfl
         refine op_nil (ev_base hNA rfl qA_48) ?_
         exact obE_end rfl rfl rfl
        ·
         intro eA aA wA hNA hGA hbsA hdpA
         have qA_49 : Sl aA 49 (ptr b23 0) := (hdpA 2 _ 49 (by kernel_rfl) rfl rfl).2 rfl
         refine op_field fld134_0 (ev_base hNA rfl qA_49) ?_
         exact obE_end rfl rfl rfl
        ·
         intro eA aA wA hNA hGA hbsA hdpA
         have qA_50 : Sl aA 50 (ptr b23 0) := (hdpA 3 _ 50 (by kernel_rfl) rfl rfl).2 rfl
         obtain ⟨hxk, hB44⟩ := hGA
         refine op_load1 (v := lv) one132 (ev_base hNA rfl qA_50) (hxk.cell rfl) ?_
         exact obE_end rfl rfl rfl
        ·
         intro eA aA wA hNA hGA hbsA hdpA
         have qA_7 := (hbsA 7 rfl).trans (sl_hit hN28 rfl)
         refine op_field fld56_0 (ev_base hNA rfl qA_7) ?_
         exact obE_end rfl rfl rfl
        ·
         intro eA aA wA hNA hGA hbsA hdpA
         have qA_52 : Sl aA 52 (ptr b42 0) := (hdpA 5 _ 52 (by kernel_rfl) rfl rfl).2 rfl
         obtain ⟨hxk, hB44⟩ := hGA
         refine op_load1 (v := ((L.map Prod.fst).getD i D2).1) one54 (ev_base hNA rfl qA_52) (hB44.cell rfl) ?_
         exact obE_end rfl rfl rfl
        ·
         intro eA aA wA hNA hGA hbsA hdpA
         have qA_7 := (hbsA 7 rfl).trans (sl_hit hN28 rfl)
         refine op_field fld56_1 (ev_base hNA rfl qA_7) ?_
         exact obE_end rfl rfl rfl
        ·
         intro eA aA wA hNA hGA hbsA hdpA
         have qA_55 : Sl aA 55 (ptr b42 1) := (hdpA 8 _ 55 (by kernel_rfl) rfl rfl).2 rfl
         obtain ⟨hxk, hB44⟩ := hGA
         refine op_load1 (v := ((L.map Prod.snd).getD i D2).1) one54 (ev_base hNA rfl qA_55) (hB44.cell rfl) ?_
         exact obE_end rfl rfl rfl
        ·
         intro w56 E56 _ a56 hN56 hbs56 hdp56 o_ ho_; obtain rfl := Option.some.inj ho_
         have z_w56 := E56.size
         have hr := hr.keep0 E56
         have hlab : ∀ x9 ∈ (L.map Prod.fst), RdC w56 0 w.heap.size 1 x9.1 x9.2.length (x9.2.map u16v) := fun x9 hx9 => (hlab x9 hx9).keep0 E56
         have hown : ∀ x9 ∈ (L.map Prod.snd), RdC w56 0 w.heap.size 1 x9.1 x9.2.length (x9.2.map u16v) := fun x9 hx9 => (hown x9 hx9).keep0 E56
         have hB9 := hB9.keep0 E56
         have hM21 := hM21.keep0 E56
         have hxk := hxk.keep0 E56
         have hS := hS.keepG (Gr.of0 E56 NoB) (fun _ _ h => h)
         have hO29 := hO29.keep0 E56
         have hla := hla.keep0 E56
         have how := how.keep0 E56
         have hB44 := hB44.keep0 E56
         have hb := below_step0 hb E56 hb.size
         have q56_53 : Sl a56 53 ((L.map Prod.fst).getD i D2).1 := (hdp56 6 _ 53 (by kernel_rfl) rfl rfl).2 rfl
         refine op_fn (vs := [((L.map Prod.fst).getD i D2).1]) ok77 ⟨(ev_base hN56 rfl q56_53), trivial⟩ (CloneL ((L.map Prod.fst).getD i D2).2 _ _ (by omega) (hla.mono (Nat.zero_le _) (by omega))) ?_
         rintro v57 w58 ⟨E59, hO57⟩
         have dj60 : Dj F0S (Bl v57) := Dj.fresh (fun k hk => (hS.lt k hk).2) (fun k hk => (hO57.lt k hk).1)
         have E59 := grown_of_below E59
         have z_w58 := E59.size
         have hr := hr.keep0 E59
         have hlab : ∀ x9 ∈ (L.map Prod.fst), RdC w58 0 w.heap.size 1 x9.1 x9.2.length (x9.2.map u16v) := fun x9 hx9 => (hlab x9 hx9).keep0 E59
         have hown : ∀ x9 ∈ (L.map Prod.snd), RdC w58 0 w.heap.size 1 x9.1 x9.2.length (x9.2.map u16v) := fun x9 hx9 => (hown x9 hx9).keep0 E59
         have hB9 := hB9.keep0 E59
         have hM21 := hM21.keep0 E59
         have hxk := hxk.keep0 E59
         have hS := hS.keepG (Gr.of0 E59 NoB) (fun _ _ h => h)
         have hO29 := hO29.keep0 E59
         have hla := hla.keep0 E59
         have how := how.keep0 E59
         have hB44 := hB44.keep0 E59
         have hb := below_step0 hb E59 hb.size
         have hO57 := hO57.mono (base' := w.heap.size) (by omega)
         refine ke_end rfl (by decide) rfl ⟨hxk, hB44⟩ ?_
         intro w61 E61 _ a61 hN61 hbs61 hdp61 o_ ho_; obtain rfl := Option.some.inj ho_
         have z_w61 := E61.size
         have hr := hr.keep0 E61
         have hlab : ∀ x9 ∈ (L.map Prod.fst), RdC w61 0 w.heap.size 1 x9.1 x9.2.length (x9.2.map u16v) := fun x9 hx9 => (hlab x9 hx9).keep0 E61
         have hown : ∀ x9 ∈ (L.map Prod.snd), RdC w61 0 w.heap.size 1 x9.1 x9.2.length (x9.2.map u16v) := fun x9 hx9 => (hown x9 hx9).keep0 E61
         have hB9 := hB9.keep0 E61
         have hM21 := hM21.keep0 E61
         have hxk := hxk.keep0 E61
         have hS := hS.keepG (Gr.of0 E61 NoB) (fun _ _ h => h)
         have hO29 := hO29.keep0 E61
         have hla := hla.keep0 E61
         have how := how.keep0 E61
         have hB44 := hB44.keep0 E61
         have hO57 := hO57.keep0 E61
         have hb := below_step0 hb E61 hb.size
         have q61_56 : Sl a61 56 ((L.map Prod.snd).getD i D2).1 := (hdp61 9 _ 56 (by kernel_rfl) rfl rfl).2 rfl
         refine op_fn (vs := [((L.map Prod.snd).getD i D2).1]) ok77 ⟨(ev_base hN61 rfl q61_56), trivial⟩ (CloneL ((L.map Prod.snd).getD i D2).2 _ _ (by omega) (how.mono (Nat.zero_le _) (by omega))) ?_
         rintro v62 w63 ⟨E64, hO62⟩
         have dj65 : Dj F0S (Bl v62) := Dj.fresh (fun k hk => (hS.lt k hk).2) (fun k hk => (hO62.lt k hk).1)
         have dj66 : DJ v62 v57 := fun k hk hg => by have q1 := (hO62.lt k hk).1; have q2 := (hO57.lt k hg).2; omega
         have E64 := grown_of_below E64
         have z_w63 := E64.size
         have hr := hr.keep0 E64
         have hlab : ∀ x9 ∈ (L.map Prod.fst), RdC w63 0 w.heap.size 1 x9.1 x9.2.length (x9.2.map u16v) := fun x9 hx9 => (hlab x9 hx9).keep0 E64
         have hown : ∀ x9 ∈ (L.map Prod.snd), RdC w63 0 w.heap.size 1 x9.1 x9.2.length (x9.2.map u16v) := fun x9 hx9 => (hown x9 hx9).keep0 E64
         have hB9 := hB9.keep0 E64
         have hM21 := hM21.keep0 E64
         have hxk := hxk.keep0 E64
         have hS := hS.keepG (Gr.of0 E64 NoB) (fun _ _ h => h)
         have hO29 := hO29.keep0 E64
         have hla := hla.keep0 E64
         have how := how.keep0 E64
         have hB44 := hB44.keep0 E64
         have hO57 := hO57.keep0 E64
         have hb := below_step0 hb E64 hb.size
         have hO62 := hO62.mono (base' := w.heap.size) (by omega)
         refine ke_end rfl (by decide) rfl ⟨hxk, hB44⟩ ?_
         intro w67 E67 _ a67 hN67 hbs67 hdp67 o_ ho_; obtain rfl := Option.some.inj ho_
         have z_w67 := E67.size
         have hr := hr.keep0 E67
         have hlab : ∀ x9 ∈ (L.map Prod.fst), RdC w67 0 w.heap.size 1 x9.1 x9.2.length (x9.2.map u16v) := fun x9 hx9 => (hlab x9 hx9).keep0 E67
         have hown : ∀ x9 ∈ (L.map Prod.snd), RdC w67 0 w.heap.size 1 x9.1 x9.2.length (x9.2.map u16v) := fun x9 hx9 => (hown x9 hx9).keep0 E67
         have hB9 := hB9.keep0 E67
         have hM21 := hM21.keep0 E67
         have hxk := hxk.keep0 E67
         have hS := hS.keepG (Gr.of0 E67 NoB) (fun _ _ h => h)
         have hO29 := hO29.keep0 E67
         have hla := hla.keep0 E67
         have how := how.keep0 E67
         have hB44 := hB44.keep0 E67
         have hO57 := hO57.keep0 E67
         have hO62 := hO62.keep0 E67
         have hb := below_step0 hb E67 hb.size
         refine op_fn (vs := [(Value.int .i64 16)]) ok17 ⟨rfl, trivial⟩ (NewR_s 16 _ (by omega)) ?_
         rintro _ w69 ⟨E70, p68, F68, rfl, hp68⟩
         have lo_F68 : ∀ k, F68 k → w67.heap.size ≤ k := fun k hk => (hp68.lt k hk).1
         have dj71 : ¬ F68 b7 := fun hf => by have := lo_F68 _ hf; have := hB9.lt; omega
         have dj72 : ¬ F68 m20 := fun hf => by have := lo_F68 _ hf; have := hM21.lt; omega
         have dj73 : ¬ F68 b23 := fun hf => by have := lo_F68 _ hf; have := hxk.lt; omega
         have dj74 : Dj F0S F68 := Dj.fresh (fun k hk => (hS.lt k hk).2) lo_F68
         have dj75 : Dj (Bl lv) F68 := Dj.fresh (fun k hk => (hO29.lt k hk).2) lo_F68
         have dj76 : ¬ F68 b42 := fun hf => by have := lo_F68 _ hf; have := hB44.lt; omega
         have dj77 : Dj (Bl v57) F68 := Dj.fresh (fun k hk => (hO57.lt k hk).2) lo_F68
         have dj78 : Dj (Bl v62) F68 := Dj.fresh (fun k hk => (hO62.lt k hk).2) lo_F68
         have E70 := grown_of_below E70
         have z_w69 := E70.size
         have hr := hr.keep0 E70
         have hlab : ∀ x9 ∈ (L.map Prod.fst), RdC w69 0 w.heap.size 1 x9.1 x9.2.length (x9.2.map u16v) := fun x9 hx9 => (hlab x9 hx9).keep0 E70
         have hown : ∀ x9 ∈ (L.map Prod.snd), RdC w69 0 w.heap.size 1 x9.1 x9.2.length (x9.2.map u16v) := fun x9 hx9 => (hown x9 hx9).keep0 E70
         have hB9 := hB9.keep0 E70
         have hM21 := hM21.keep0 E70
         have hxk := hxk.keep0 E70
         have hS := hS.keepG (Gr.of0 E70 NoB) (fun _ _ h => h)
         have hO29 := hO29.keep0 E70
         have hla := hla.keep0 E70
         have how := how.keep0 E70
         have hB44 := hB44.keep0 E70
         have hO57 := hO57.keep0 E70
         have hO62 := hO62.keep0 E70
         have hb := below_step0 hb E70 hb.size
         have hp68 : (PostR sv 126 9) w69 w.heap.size p68 16 ([] : List (List UInt8)) F68 := hp68.mono (by omega)
         refine ke_end rfl (by decide) rfl ⟨hxk, hB44⟩ ?_
         intro w79 E79 _ a79 hN79 hbs79 hdp79 o_ ho_; obtain rfl := Option.some.inj ho_
         have z_w79 := E79.size
         have hr := hr.keep0 E79
         have hlab : ∀ x9 ∈ (L.map Prod.fst), RdC w79 0 w.heap.size 1 x9.1 x9.2.length (x9.2.map u16v) := fun x9 hx9 => (hlab x9 hx9).keep0 E79
         have hown : ∀ x9 ∈ (L.map Prod.snd), RdC w79 0 w.heap.size 1 x9.1 x9.2.length (x9.2.map u16v) := fun x9 hx9 => (hown x9 hx9).keep0 E79
         have hB9 := hB9.keep0 E79
         have hM21 := hM21.keep0 E79
         have hxk := hxk.keep0 E79
         have hS := hS.keepG (Gr.of0 E79 NoB) (fun _ _ h => h)
         have hO29 := hO29.keep0 E79
         have hla := hla.keep0 E79
         have how := how.keep0 E79
         have hB44 := hB44.keep0 E79
         have hO57 := hO57.keep0 E79
         have hO62 := hO62.keep0 E79
         have hp68 := hp68.keepG (Gr.of0 E79 NoB) (fun _ _ h => h)
         have hb := below_step0 hb E79 hb.size
         have q79_54 : Sl a79 54 v57 := (Option.some.inj ((hdp79 7 _ 54 (by kernel_rfl) rfl rfl).1 0 rfl)).symm
         have q79_57 : Sl a79 57 v62 := (Option.some.inj ((hdp79 10 _ 57 (by kernel_rfl) rfl rfl).1 1 rfl)).symm
         have q79_58 : Sl a79 58 (ptr p68 0) := (Option.some.inj ((hdp79 11 _ 58 (by kernel_rfl) rfl rfl).1 2 rfl)).symm
         refine op_build (pv := [(0, v57), (1, v62), (2, (ptr p68 0))]) (v := (Value.agg #[v57, v62, (ptr p68 0)])) ⟨rfl, (ev_base hN79 rfl q79_54), ⟨rfl, (ev_base hN79 rfl q79_57), ⟨rfl, (ev_base hN79 rfl q79_58), trivial⟩⟩⟩ (by obtain ⟨_, _, _, rfl⟩ := hO57.sl; obtain ⟨_, _, _, rfl⟩ := hO62.sl; kernel_rfl) ?_
         refine ke_end rfl (by decide) rfl ⟨hxk, hB44⟩ ?_
         intro w80 E80 _ a80 hN80 hbs80 hdp80 o_ ho_; obtain rfl := Option.some.inj ho_
         have z_w80 := E80.size
         have hr := hr.keep0 E80
         have hlab : ∀ x9 ∈ (L.map Prod.fst), RdC w80 0 w.heap.size 1 x9.1 x9.2.length (x9.2.map u16v) := fun x9 hx9 => (hlab x9 hx9).keep0 E80
         have hown : ∀ x9 ∈ (L.map Prod.snd), RdC w80 0 w.heap.size 1 x9.1 x9.2.length (x9.2.map u16v) := fun x9 hx9 => (hown x9 hx9).keep0 E80
         have hB9 := hB9.keep0 E80
         have hM21 := hM21.keep0 E80
         have hxk := hxk.keep0 E80
         have hS := hS.keepG (Gr.of0 E80 NoB) (fun _ _ h => h)
         have hO29 := hO29.keep0 E80
         have hla := hla.keep0 E80
         have how := how.keep0 E80
         have hB44 := hB44.keep0 E80
         have hO57 := hO57.keep0 E80
         have hO62 := hO62.keep0 E80
         have hp68 := hp68.keepG (Gr.of0 E80 NoB) (fun _ _ h => h)
         have hb := below_step0 hb E80 hb.size
         have q80_59 : Sl a80 59 (Value.agg #[v57, v62, (ptr p68 0)]) := (Option.some.inj ((hdp80 12 _ 59 (by kernel_rfl) rfl rfl).1 3 rfl)).symm
         refine op_bslice (e := 137) (pv := [(0, (Value.agg #[v57, v62, (ptr p68 0)]))]) (cs := [v57, v62, (ptr p68 0)]) ⟨rfl, (ev_base hN80 rfl q80_59), trivial⟩ (by obtain ⟨_, _, _, rfl⟩ := hO57.sl; obtain ⟨_, _, _, rfl⟩ := hO62.sl; kernel_rfl) ?_
         intro w81 b82 lo_b82 hi_b82 hB84 E83
         have dj85 : ¬ F0S b82 := fun hf => by have := (hS.lt _ hf).2; omega
         have dj86 : ¬ F68 b82 := fun hf => by have := (hp68.lt _ hf).2; omega
         have ne_b82_lv : lv.ownBlock ≠ some b82 := fun hh => by have := (hO29.lt _ hh).2; omega
         have z_w81 := E83.size
         have hr := hr.keep0 E83
         have hlab : ∀ x9 ∈ (L.map Prod.fst), RdC w81 0 w.heap.size 1 x9.1 x9.2.length (x9.2.map u16v) := fun x9 hx9 => (hlab x9 hx9).keep0 E83
         have hown : ∀ x9 ∈ (L.map Prod.snd), RdC w81 0 w.heap.size 1 x9.1 x9.2.length (x9.2.map u16v) := fun x9 hx9 => (hown x9 hx9).keep0 E83
         have hB9 := hB9.keep0 E83
         have hM21 := hM21.keep0 E83
         have hxk := hxk.keep0 E83
         have hS := hS.keepG (Gr.of0 E83 NoB) (fun _ _ h => h)
         have hO29 := hO29.keep0 E83
         have hla := hla.keep0 E83
         have how := how.keep0 E83
         have hB44 := hB44.keep0 E83
         have hO57 := hO57.keep0 E83
         have hO62 := hO62.keep0 E83
         have hp68 := hp68.keepG (Gr.of0 E83 NoB) (fun _ _ h => h)
         have hb := below_step0 hb E83 hb.size
         refine ke_end rfl (by decide) rfl ⟨hxk, hB44⟩ ?_
         intro w87 E87 _ a87 hN87 hbs87 hdp87 o_ ho_; obtain rfl := Option.some.inj ho_
         have z_w87 := E87.size
         have hr := hr.keep0 E87
         have hlab : ∀ x9 ∈ (L.map Prod.fst), RdC w87 0 w.heap.size 1 x9.1 x9.2.length (x9.2.map u16v) := fun x9 hx9 => (hlab x9 hx9).keep0 E87
         have hown : ∀ x9 ∈ (L.map Prod.snd), RdC w87 0 w.heap.size 1 x9.1 x9.2.length (x9.2.map u16v) := fun x9 hx9 => (hown x9 hx9).keep0 E87
         have hB9 := hB9.keep0 E87
         have hM21 := hM21.keep0 E87
         have hxk := hxk.keep0 E87
         have hS := hS.keepG (Gr.of0 E87 NoB) (fun _ _ h => h)
         have hO29 := hO29.keep0 E87
         have hla := hla.keep0 E87
         have how := how.keep0 E87
         have hB44 := hB44.keep0 E87
         have hO57 := hO57.keep0 E87
         have hO62 := hO62.keep0 E87
         have hp68 := hp68.keepG (Gr.of0 E87 NoB) (fun _ _ h => h)
         have hB84 := hB84.keep0 E87
         have hb := below_step0 hb E87 hb.size
         have q87_51 : Sl a87 51 lv := (hdp87 4 _ 51 (by kernel_rfl) rfl rfl).2 rfl
         have q87_60 : Sl a87 60 (Value.slice (some ⟨b82, 0, none⟩) 1 1) := (Option.some.inj ((hdp87 13 _ 60 (by kernel_rfl) rfl rfl).1 4 rfl)).symm
         have hP93 := hO29
         refine op_append slt132 (ev_base hN87 rfl q87_51) hP93 (ev_base hN87 rfl q87_60) (Src.ofRd Try.underlying132 (by decide) (RdC.ofBx (sz := 3) (n := 1) hB84 rfl (by decide)) (by simp only [List.all_cons, List.all_nil, Bool.true_and, Bool.and_true, hO57.one, hO62.one]; try rfl)) (by unfold maxLen; omega) (by omega) hb.size ?_
         intro v88 w89 hO91 E90 hm92
         have dj94 : Dj F0S (Bl v88) := Dj.step hm92 (fun k hk => (hS.lt k hk).2) dj34.symm
         have dj95 : Dj F68 (Bl v88) := Dj.step hm92 (fun k hk => (hp68.lt k hk).2) dj75.symm
         have z_w89 := E90.size
         have hr := hr.keepO hP93 E90 (by omega)
         have hlab : ∀ x9 ∈ (L.map Prod.fst), RdC w89 0 w.heap.size 1 x9.1 x9.2.length (x9.2.map u16v) := fun x9 hx9 => (hlab x9 hx9).keepO hP93 E90 (by omega)
         have hown : ∀ x9 ∈ (L.map Prod.snd), RdC w89 0 w.heap.size 1 x9.1 x9.2.length (x9.2.map u16v) := fun x9 hx9 => (hown x9 hx9).keepO hP93 E90 (by omega)
         have hB9 := hB9.keepO hP93 E90 (by decide)
         have hM21 := hM21.keepO hP93 E90
         have hxk := hxk.keepO hP93 E90 (by decide)
         have hS := hS.keepG (Gr.of E90) dj34.symm
         have hla := hla.keepO hP93 E90 (by omega)
         have how := how.keepO hP93 E90 (by omega)
         have hB44 := hB44.keepO hP93 E90 (by decide)
         have hO57 := hO57.keepT hP93 E90 (by decide)
         have hO62 := hO62.keepT hP93 E90 (by decide)
         have hp68 := hp68.keepG (Gr.of E90) dj75.symm
         have hB84 := hB84.keep E90 (fun hh => ne_b82_lv hh.symm)
         have hb := below_stepO hb hP93 E90 hb.size (by omega)
         have hO91 : Own w89 w.heap.size 137 3 v88 (i + 1) ((C.flatMap cellsK ++ [v57, v62, (ptr p68 0)])) := by simpa [u8v, u16v, sv] using hO91
         have ne_b82_v88 : v88.ownBlock ≠ some b82 := ne_step (w1 := w87) ⟨E90, hm92⟩ (by omega) ne_b82_lv
         refine ke_end rfl (by decide) rfl ⟨hxk, hB44⟩ ?_
         intro w96 E96 a96 hN96 hd96 hbs96 hph96
         have hd96 := hd96.trans ((by simp only [putsL_defers] : _ = _).trans hd28)
         have z_w96 := E96.size
         have hr := hr.keep0 E96
         have hlab : ∀ x9 ∈ (L.map Prod.fst), RdC w96 0 w.heap.size 1 x9.1 x9.2.length (x9.2.map u16v) := fun x9 hx9 => (hlab x9 hx9).keep0 E96
         have hown : ∀ x9 ∈ (L.map Prod.snd), RdC w96 0 w.heap.size 1 x9.1 x9.2.length (x9.2.map u16v) := fun x9 hx9 => (hown x9 hx9).keep0 E96
         have hB9 := hB9.keep0 E96
         have hM21 := hM21.keep0 E96
         have hxk := hxk.keep0 E96
         have hS := hS.keepG (Gr.of0 E96 NoB) (fun _ _ h => h)
         have hla := hla.keep0 E96
         have how := how.keep0 E96
         have hB44 := hB44.keep0 E96
         have hO57 := hO57.keep0 E96
         have hO62 := hO62.keep0 E96
         have hp68 := hp68.keepG (Gr.of0 E96 NoB) (fun _ _ h => h)
         have hB84 := hB84.keep0 E96
         have hO91 := hO91.keep0 E96
         have hb := below_step0 hb E96 hb.size
         have s96_5 := (hbs96 5 rfl).trans (sl_base hN28 rfl s28_5)
         have s96_31 := (hbs96 31 rfl).trans (sl_base hN28 rfl s28_31)
         have s96_32 := (hbs96 32 rfl).trans (sl_base hN28 rfl s28_32)
         have s96_33 := (hbs96 33 rfl).trans (sl_base hN28 rfl s28_33)
         have s96_47 : Sl a96 47 (ptr b23 0) := (hph96 0 _ 47 rfl rfl).2 rfl
         have s96_61 : Sl a96 61 v88 := (Option.some.inj ((hph96 14 _ 61 rfl rfl).1 5 rfl)).symm
         refine split_end ?_
         refine from_seq (tl := [_, _, _]) (by decide) (by kernel_rfl) rfl ?_
         refine op_nil (ev_base hN96 rfl s96_47) ?_
         refine op_field fld134_0 (ev_hit hN96 rfl) ?_
         have hxk_old := hxk
         refine op_store (vs := [v88]) (cs' := [v88, (Value.map (some m20))]) size132 (ev_hit hN96 rfl) (ev_base hN96 rfl s96_61) hO91.cl rfl (by simp only [List.all_cons, List.all_nil, Bool.true_and, Bool.and_true, hO91.one]; try rfl) hxk (Nat.le_of_ble_eq_true rfl) rfl ?_
         intro w99 hxk E100
         have z_w99 := E100.size
         have hr := hr.keep E100 (fun k hk => .inr (by simp at hk; omega))
         have hlab : ∀ x9 ∈ (L.map Prod.fst), RdC w99 0 w.heap.size 1 x9.1 x9.2.length (x9.2.map u16v) := fun x9 hx9 => (hlab x9 hx9).keep E100 (fun k hk => .inr (by simp at hk; omega))
         have hown : ∀ x9 ∈ (L.map Prod.snd), RdC w99 0 w.heap.size 1 x9.1 x9.2.length (x9.2.map u16v) := fun x9 hx9 => (hown x9 hx9).keep E100 (fun k hk => .inr (by simp at hk; omega))
         have hB9 := hB9.keep E100 (by simp; omega)
         have hM21 := hM21.keepB hxk_old E100
         have hS := hS.keepG (Gr.of E100) (Dj.one dj33)
         have hla := hla.keep E100 (fun k hk => .inr (by simp at hk; omega))
         have how := how.keep E100 (fun k hk => .inr (by simp at hk; omega))
         have hB44 := hB44.keep E100 (by simp; omega)
         have hO57 := hO57.keepX hxk_old E100 (by decide)
         have hO62 := hO62.keepX hxk_old E100 (by decide)
         have hp68 := hp68.keepG (Gr.of E100) (Dj.one dj73)
         have hB84 := hB84.keep E100 (by simp; omega)
         have hO91 := hO91.keepX hxk_old E100 (by decide)
         have hb := below_step1 hb E100 hb.size (by omega)
         refine reg_nil ?_
         refine hK36 _ _ ?_
         refine one_reg ?_
         refine op_add (ev_base hN96 rfl s96_33) rfl (add64 (by omega)) ?_
         refine op_move (ev_hit hN96 rfl) ?_
         refine reg_nil ?_
         -- round 12F 15F 20F 25F 34T 39T 44T
         exact loop_next _ hN96 hd96 ⟨(i + 1), v88, (C ++ [⟨v57, v62, p68, F68⟩]), (fun x => F0S x ∨ Bl v57 x ∨ Bl v62 x ∨ F68 x), rfl, (sl_base hN96 rfl s96_5), (sl_base hN96 rfl s96_31), (sl_base hN96 rfl s96_32), (sl_hit hN96 rfl).trans (congrArg (Value.int .i64) (by omega)), (by omega), (by simp; omega), (may_snoc hmay c39 c44), hb, (by omega), hr, hlab, hown, hB9, hM21, hxk, (by rw [ks_step (by omega)]; exact hS.snoc hO57 hO62 hp68 dj74), (hO91.cast (by omega) (by simp [List.flatMap_append, cellsK]))⟩ (by omega)
       · -- 44F
        rw [c44]
        refine g_true (j := 4) (dj := 41) (b := false) rfl rfl rfl (ev_hit hN28 rfl) ?_
        refine op_not (ev_hit hN28 rfl) ?_
        refine op_pick_f (ev_hit hN28 rfl) (ev_hit hN28 rfl) ?_
        refine reg_nil ?_
        refine hK51 _ _ ?_
        refine wp_cond_true (ev_hit hN28 rfl) ?_
        refine seq_any fun K101 hK101 => ?_
        refine one_reg ?_
        refine op_assign rfl ?_
        refine op_assign rfl ?_
        refine reg_nil ?_
        refine hK101 _ _ ?_
        refine wp_ret (then_ret (blk_ret (then_ret (then_ret (blk_ret (then_ret ( ?_)))))))
        refine ret2 rfl hd28 (ev_hit hN28 rfl) (ev_hit hN28 rfl) ⟨_, rfl, ?_⟩
        -- path 12F 15F 20F 25F 34T 39T 44F
        exact ⟨hb, .inl ⟨cfg_f2 (not_may (i := i) (by omega) (by first | exact .inl c39 | exact .inr c44)), rfl⟩⟩
      · -- 39F
       rw [c39]
       refine op_not (ev_hit hN28 rfl) ?_
       refine op_move (ev_hit hN28 rfl) ?_
       refine g_false (j := 4) (dj := 41) (b := false) rfl rfl rfl (ev_hit hN28 rfl) rfl rfl ?_
       refine g_false (j := 4) (dj := 41) (b := false) rfl rfl rfl (ev_hit hN28 rfl) rfl rfl ?_
       refine g_false (j := 4) (dj := 41) (b := false) rfl rfl rfl (ev_hit hN28 rfl) rfl rfl ?_
       refine g_false (j := 4) (dj := 41) (b := false) rfl rfl rfl (ev_hit hN28 rfl) rfl rfl ?_
       refine op_pick_t (ev_hit hN28 rfl) rfl ?_
       refine reg_nil ?_
       refine hK51 _ _ ?_
       refine wp_cond_true (ev_hit hN28 rfl) ?_
       refine seq_any fun K102 hK102 => ?_
       refine one_reg ?_
       refine op_assign rfl ?_
       refine op_assign rfl ?_
       refine reg_nil ?_
       refine hK102 _ _ ?_
       refine wp_ret (then_ret (blk_ret (then_ret (then_ret (blk_ret (then_ret ( ?_)))))))
       refine ret2 rfl hd28 (ev_hit hN28 rfl) (ev_hit hN28 rfl) ⟨_, rfl, ?_⟩
       -- path 12F 15F 20F 25F 34T 39F
       exact ⟨hb, .inl ⟨cfg_f2 (not_may (i := i) (by omega) (by first | exact .inl c39 | exact .inr c44)), rfl⟩⟩
     · -- 34F
      refine reg_nil ?_
      refine hK30 _ _ ?_
      refine seq_any fun K103 hK103 => ?_
      refine wp_cond_false (ev_hit hN28 rfl) ?_
      refine wp_exit (then_exit (then_exit (blk_hit ?_)))
      refine hK26 _ _ ?_
      refine seq_any fun K104 hK104 => ?_
      refine one_reg ?_
      refine op_move (ev_base hN28 rfl s28_5) ?_
      refine op_assign (ev_hit hN28 rfl) ?_
      refine op_assign rfl ?_
      refine reg_nil ?_
      refine hK104 _ _ ?_
      refine wp_ret ?_
      refine ret2 rfl hd28 (ev_hit hN28 rfl) (ev_hit hN28 rfl) ⟨_, rfl, ?_⟩
      -- path 12F 15F 20F 25F 34F
      obtain rfl : i = L.length := by omega
      rw [List.take_length] at hS
      exact ⟨hb, .inr ⟨cfg_t (by omega) (by omega) (by omega) (by omega) (all_may hmay (Nat.le_refl _)), b23, _, rfl, hS.kern (by omega) (by omega) hxk (hO29.cast (by simp) rfl) hM21⟩⟩

end Go.Proofs.Ytmhdbphpmgjpcaa

/- What is done with one session, and what the sessions are then. -/
namespace Go.Gx
section
variable {w w' : World} {base k m : Nat} {S : List KS} {C : List KC} {M : List (List UInt8 × Int)} {F : Nat → Prop} {lv : Value} {i : Nat}
theorem SessR.apartP {s : KS} {c : KC} {p : Nat} {T : List (List UInt8)} {Fp : Nat → Prop} (h : SessR w base s c) (hQ : PostS w base p 16 T Fp) (hd : Dj c.F Fp) : ∀ x, PartK c x → ¬ Fp x := fun x hx => by
  rcases hx with hx | hx | hx
  · exact hQ.notOwn h.1 (by decide) (by decide) x hx
  · exact hQ.notOwn h.2.1 (by decide) (by decide) x hx
  · exact hd x hx
/-- One session's parts, and what there is behind a turn of its post. -/
theorem KernR.post (h : KernR w base k S M F) (hi : i < S.length) : ∃ (lv : Value) (m : Nat) (C : List KC), C.length = S.length ∧ Bx w k 134 [lv, .map (some m)] ∧ Own w base 137 3 lv S.length (C.flatMap cellsK) ∧ SessR w base (S.getD i default) (C.getD i default) ∧
    ∀ w' T' F', Gr w w' (C.getD i default).F → PostS w' base (C.getD i default).p 16 T' F' → NewF w.heap.size (C.getD i default).F F' →
      Gr w w' F ∧ ∃ F2, KernR w' base k (S.set i { S.getD i default with texts := T' }) M F2 ∧ NewF w.heap.size F F2 := by
  obtain ⟨lv, m, C, hk, hm, hC, hx, O, hM, hS, hD, hF⟩ := h
  refine ⟨lv, m, C, hC, hx, O, hS i hi, fun w' T' F' E hQ' hN => ?_⟩
  have hc := hS i hi
  have hiC : i < C.length := by rw [hC]; exact hi
  have gC : ∀ j, (C.set i { C.getD i default with F := F' }).getD j default = if j = i then { C.getD i default with F := F' } else C.getD j default := fun j => getD_set hiC
  have gS : ∀ j, (S.set i { S.getD i default with texts := T' }).getD j default = if j = i then { S.getD i default with texts := T' } else S.getD j default := fun j => getD_set hi
  refine ⟨E.mono fun x _ hx => (hF x).2 (.inr (.inr (.inr ⟨i, hi, .inr (.inr hx)⟩))), _, ⟨lv, m, C.set i { C.getD i default with F := F' }, hk, hm, by simp [hC], hx.keepG E (hc.2.2.notBx hx (by decide) (by decide)), ?_, hM.keepG E (hc.2.2.notMap hM), ?_, ?_, fun x => Iff.rfl⟩, ?_⟩
  · rw [List.length_set, flat_cellsK]; exact O.keepG E (hc.2.2.notOwn O (by decide) (by decide))
  · intro j hj
    rw [List.length_set] at hj
    rw [gC, gS]
    by_cases hji : j = i
    · rw [if_pos hji, if_pos hji]
      exact ⟨hc.1.keepG E (hc.2.2.notOwn hc.1 (by decide) (by decide)), hc.2.1.keepG E (hc.2.2.notOwn hc.2.1 (by decide) (by decide)), hQ'⟩
    · rw [if_neg hji, if_neg hji]
      exact (hS j hj).keepG E ((hS j hj).apartP hc.2.2 (hD j i hj hi hji))
  · intro a b ha hb hab
    rw [List.length_set] at ha hb
    rw [gC, gC]
    by_cases h1 : a = i <;> by_cases h2 : b = i
    · exact absurd (h1.trans h2.symm) hab
    · rw [if_pos h1, if_neg h2]
      exact (Dj.stepF hN (fun x hx => ((hS b hb).2.2.lt x hx).2) (hD b i hb hi h2)).symm
    · rw [if_neg h1, if_pos h2]
      exact Dj.stepF hN (fun x hx => ((hS a ha).2.2.lt x hx).2) (hD a i ha hi h1)
    · rw [if_neg h1, if_neg h2]; exact hD a b ha hb hab
  · intro x hx
    rcases hx with rfl | rfl | hx | ⟨j, hj, hx⟩
    · exact .inl ((hF x).2 (.inl rfl))
    · exact .inl ((hF x).2 (.inr (.inl rfl)))
    · exact .inl ((hF x).2 (.inr (.inr (.inl hx))))
    · rw [List.length_set] at hj
      rw [gC] at hx
      by_cases hji : j = i
      · rw [if_pos hji] at hx
        rcases hx with hx | hx | hx
        · exact .inl ((hF x).2 (.inr (.inr (.inr ⟨i, hi, .inl hx⟩))))
        · exact .inl ((hF x).2 (.inr (.inr (.inr ⟨i, hi, .inr (.inl hx)⟩))))
        · exact (hN x hx).imp (fun q => (hF x).2 (.inr (.inr (.inr ⟨i, hi, .inr (.inr q)⟩)))) id
      · rw [if_neg hji] at hx
        exact .inl ((hF x).2 (.inr (.inr (.inr ⟨j, hj, hx⟩))))
/-- One session's parts, and what there is when its label is another one. -/
theorem KernR.relabel (h : KernR w base k S M F) (hb : base ≤ w.heap.size) (hi : i < S.length) : ∃ (lv : Value) (m : Nat) (C : List KC), C.length = S.length ∧ Bx w k 134 [lv, .map (some m)] ∧ Own w base 137 3 lv S.length (C.flatMap cellsK) ∧ SessR w base (S.getD i default) (C.getD i default) ∧
    ∀ w' (nv : Value) (l' : List UInt16), w.grownBy w' lv.ownBlock → Own w' base 137 3 lv S.length ((C.set i ⟨nv, (C.getD i default).own, (C.getD i default).p, (C.getD i default).F⟩).flatMap cellsK) → Own w' base 46 1 nv l'.length (l'.map u16v) → (nv = (C.getD i default).lab ∨ ∀ x, Bl nv x → w.heap.size ≤ x) →
      Gr w w' F ∧ ∃ F2, KernR w' base k (S.set i { S.getD i default with label := l' }) M F2 ∧ NewF w.heap.size F F2 := by
  obtain ⟨lv, m, C, hk, hm, hC, hx, O, hM, hS, hD, hF⟩ := h
  refine ⟨lv, m, C, hC, hx, O, hS i hi, fun w' nv l' E0 O' hL' hn => ?_⟩
  have hc := hS i hi
  have E : Gr w w' (Bl lv) := Gr.of E0
  have hiC : i < C.length := by rw [hC]; exact hi
  have gC : ∀ j, (C.set i ⟨nv, (C.getD i default).own, (C.getD i default).p, (C.getD i default).F⟩).getD j default = if j = i then ⟨nv, (C.getD i default).own, (C.getD i default).p, (C.getD i default).F⟩ else C.getD j default := fun j => getD_set hiC
  have gS : ∀ j, (S.set i { S.getD i default with label := l' }).getD j default = if j = i then { S.getD i default with label := l' } else S.getD j default := fun j => getD_set hi
  have gF : ∀ j, ((C.set i ⟨nv, (C.getD i default).own, (C.getD i default).p, (C.getD i default).F⟩).getD j default).F = (C.getD j default).F := fun j => by
    rw [gC]; by_cases hji : j = i
    · rw [if_pos hji, hji]
    · rw [if_neg hji]
  have ap : ∀ j, j < S.length → ∀ x, PartK (C.getD j default) x → ¬ Bl lv x := fun j hj x hp hl => by
    obtain ⟨a1, a2, a3⟩ := hS j hj
    rcases hp with hp | hp | hp
    · exact O.notOwn a1 (by decide) x hl hp
    · exact O.notOwn a2 (by decide) x hl hp
    · exact a3.notOwn O (by decide) (by decide) x hl hp
  refine ⟨E.mono fun x _ hx => (hF x).2 (.inr (.inr (.inl hx))), _, ⟨lv, m, C.set i ⟨nv, (C.getD i default).own, (C.getD i default).p, (C.getD i default).F⟩, hk, hm, by simp [hC], hx.keepO O E0 (by decide), by rw [List.length_set]; exact O', hM.keepO O E0, ?_, ?_, fun x => Iff.rfl⟩, ?_⟩
  · intro j hj
    rw [List.length_set] at hj
    have := (hS j hj).keepG E (ap j hj)
    rw [gC, gS]
    by_cases hji : j = i
    · subst hji; rw [if_pos rfl, if_pos rfl]; exact ⟨hL', this.2.1, this.2.2⟩
    · rw [if_neg hji, if_neg hji]; exact this
  · intro a b ha hb2 hab
    rw [List.length_set] at ha hb2
    rw [gF, gF]; exact hD a b ha hb2 hab
  · intro x hx
    rcases hx with rfl | rfl | hx | ⟨j, hj, hx⟩
    · exact .inl ((hF x).2 (.inl rfl))
    · exact .inl ((hF x).2 (.inr (.inl rfl)))
    · exact .inl ((hF x).2 (.inr (.inr (.inl hx))))
    · rw [List.length_set] at hj
      rw [gC] at hx
      by_cases hji : j = i
      · rw [if_pos hji] at hx
        rcases hx with hx | hx | hx
        · rcases hn with hn | hn
          · exact .inl ((hF x).2 (.inr (.inr (.inr ⟨i, hi, .inl (hn ▸ hx)⟩))))
          · exact .inr (hn x hx)
        · exact .inl ((hF x).2 (.inr (.inr (.inr ⟨i, hi, .inr (.inl hx)⟩))))
        · exact .inl ((hF x).2 (.inr (.inr (.inr ⟨i, hi, .inr (.inr hx)⟩))))
      · rw [if_neg hji] at hx
        exact .inl ((hF x).2 (.inr (.inr (.inr ⟨j, hj, hx⟩))))
/-- The map of stamps turns alone. -/
theorem KernR.stamp (h : KernR w base k S M F) : ∃ lv m, Bx w k 134 [lv, .map (some m)] ∧ MapC sv (Value.int .u64) w m M ∧ ∀ w' M', w.grownBy w' (some m) → MapC sv (Value.int .u64) w' m M' → Gr w w' F ∧ KernR w' base k S M' F := by
  obtain ⟨lv, m, C, hk, hm, hC, hx, O, hM, hS, hD, hF⟩ := h
  refine ⟨lv, m, hx, hM, fun w' M' E M2 => ⟨(Gr.of E).mono fun x _ hx => (hF x).2 (.inr (.inl (Option.some.inj hx).symm)), lv, m, C, hk, hm, hC, hx.keepM hM E, O.keepM hM E, M2, fun i hi => ?_, hD, hF⟩⟩
  refine (hS i hi).keepG (Gr.of E) fun x hx hm2 => ?_
  obtain rfl := Option.some.inj hm2
  obtain ⟨a1, a2, a3⟩ := hS i hi
  rcases hx with hx | hx | hx
  · exact a1.notMap hM hx
  · exact a2.notMap hM hx
  · exact a3.notMap hM hx
end
/-! plain sessions -/
def inS (S : List KS) (s : Int) : Bool := decide (0 ≤ s) && decide (s < S.length)
def atS (S : List KS) (s : Int) : KS := if inS S s = true then S.getD s.toNat default else ⟨[], [], []⟩
def updS (S : List KS) (s : Int) (f : KS → KS) : List KS := if inS S s = true then S.set s.toNat (f (S.getD s.toNat default)) else S
theorem inS_t {S : List KS} {s : Int} (h : inS S s = true) : ∃ i : Nat, s = (i : Int) ∧ i < S.length := by
  simp only [inS, Bool.and_eq_true, decide_eq_true_eq] at h
  exact ⟨s.toNat, by omega, by omega⟩
theorem inS_f {S : List KS} {s : Int} (h : inS S s = false) : s < 0 ∨ (S.length : Int) ≤ s := by
  simp only [inS, Bool.and_eq_false_iff, decide_eq_false_iff_not] at h
  omega
theorem updS_len {S : List KS} {s : Int} {f : KS → KS} : (updS S s f).length = S.length := by unfold updS; split <;> simp
def sayE (S : List KS) (s : Int) : Int := if inS S s = true then (if (atS S s).texts.length < 16 then 0 else 25) else 22
def sayS (S : List KS) (s : Int) (x : List UInt8) : List KS := updS S s fun y => { y with texts := postL 16 y.texts x }
def doneS (S : List KS) (s : Int) : List KS := updS S s fun y => { y with texts := y.texts.drop 1 }
end Go.Gx
namespace Go.Proofs.Ytmhdbphpmgjpcaa
open Go.Gx
def raiseS (S : List KS) (s : Int) (t : List UInt16) : List KS := updS S s fun y => { y with label := raiseL y.label t }
def raiseSE (S : List KS) (s : Int) (t : List UInt16) : Int := if inS S s = true then raiseE (atS S s).label t else 22
/-- Sessions as they may be. -/
def SOk (S : List KS) : Prop := S.length ≤ 6 ∧ ∀ x ∈ S, mayL x.label = true ∧ mayL x.owns = true ∧ x.texts.length ≤ 16
theorem mem_updS {S : List KS} {s : Int} {f : KS → KS} {x : KS} (h : x ∈ updS S s f) : x ∈ S ∨ ∃ y ∈ S, x = f y := by
  unfold updS at h
  split at h
  · rename_i hs
    obtain ⟨i, rfl, hi⟩ := inS_t hs
    rcases List.mem_or_eq_of_mem_set h with q | q
    · exact .inl q
    · exact .inr ⟨_, getD_mem (by rw [Int.toNat_natCast]; exact hi), q⟩
  · exact .inl h
theorem SOk.upd {S : List KS} {s : Int} {f : KS → KS} (h : SOk S) (hf : ∀ y ∈ S, mayL (f y).label = true ∧ mayL (f y).owns = true ∧ (f y).texts.length ≤ 16) : SOk (updS S s f) :=
  ⟨by rw [updS_len]; exact h.1, fun x hx => by
    rcases mem_updS hx with q | ⟨y, hy, rfl⟩
    · exact h.2 x q
    · exact hf y hy⟩
theorem SOk.say {S : List KS} (h : SOk S) (s : Int) (x : List UInt8) : SOk (sayS S s x) := h.upd fun y hy => ⟨(h.2 y hy).1, (h.2 y hy).2.1, by
  show (postL 16 y.texts x).length ≤ 16
  unfold postL; split
  · simp; omega
  · exact (h.2 y hy).2.2⟩
theorem SOk.done {S : List KS} (h : SOk S) (s : Int) : SOk (doneS S s) := h.upd fun y hy => ⟨(h.2 y hy).1, (h.2 y hy).2.1, by
  show (y.texts.drop 1).length ≤ 16
  have := (h.2 y hy).2.2
  rw [List.length_drop]; omega⟩
theorem raiseL_may {l t : List UInt16} (h : mayL l = true) : mayL (raiseL l t) = true := by
  cases hr : raiseOk l t
  · rw [(raise_f hr).1]; exact h
  · rw [(raise_t hr).1]; unfold raiseOk at hr; rw [Bool.and_eq_true] at hr; exact hr.2
theorem SOk.raise {S : List KS} (h : SOk S) (s : Int) (t : List UInt16) : SOk (raiseS S s t) := h.upd fun y hy => ⟨raiseL_may (h.2 y hy).1, (h.2 y hy).2.1, (h.2 y hy).2.2⟩
theorem SOk.lab {S : List KS} (h : SOk S) : ∀ x ∈ S, x.label.length ≤ 100 := fun x hx => Nat.le_trans (mayL_len (h.2 x hx).1) (by decide)
theorem SOk.own {S : List KS} (h : SOk S) : ∀ x ∈ S, x.owns.length ≤ 100 := fun x hx => Nat.le_trans (mayL_len (h.2 x hx).2.1) (by decide)
theorem SOk.at {S : List KS} (h : SOk S) (s : Int) : mayL (atS S s).label = true ∧ mayL (atS S s).owns = true ∧ (atS S s).texts.length ≤ 16 := by
  unfold atS
  split
  · rename_i hs
    obtain ⟨i, rfl, hi⟩ := inS_t hs
    exact h.2 _ (getD_mem (by rw [Int.toNat_natCast]; exact hi))
  · exact ⟨by decide, by decide, by decide⟩
theorem cfg_ok {L : List CSn} {q : Int} (h : cfgOk L q = true) : L.length ≠ 0 ∧ L.length ≤ 6 ∧ 1 ≤ q ∧ q ≤ 200 ∧ SOk (L.map ksOf) := by
  unfold cfgOk at h
  simp only [Bool.and_eq_true, decide_eq_true_eq, List.all_eq_true] at h
  obtain ⟨⟨⟨⟨h1, h2⟩, h3⟩, h4⟩, h5⟩ := h
  refine ⟨h1, h2, h3, h4, by simpa using h2, fun x hx => ?_⟩
  obtain ⟨c, hc, rfl⟩ := List.mem_map.1 hx
  exact ⟨(h5 c hc).1, (h5 c hc).2, Nat.zero_le _⟩
end Go.Proofs.Ytmhdbphpmgjpcaa

/- Sessions as objects: what is done with them, told plainly. -/
namespace Go.Proofs.Ytmhdbphpmgjpcaa
open Go.Gx Go.RowKit

theorem LabelR (s : Int) {base k : Nat} {S : List KS} {M : List (List UInt8 × Int)} {F : Nat → Prop} {w : World} (hb : base ≤ w.heap.size) (hn : S.length ≤ 6) (h : KernR w base k S M F) (hl : ∀ x ∈ S, x.label.length ≤ 100) : Ret Try.prog 37 #[ptr k 0, .int .i64 s] w (fun v' w' => Below w.heap.size w w' ∧ Own w' w.heap.size 46 1 v' (atS S s).label.length ((atS S s).label.map u16v)) := by
  cases hs : inS S s
  · obtain ⟨lv, m, C, _, _, _, hx, O, _, ⟨hC, _, _, _⟩, _⟩ := h.all
    have ha : atS S s = ⟨[], [], []⟩ := by unfold atS; rw [if_neg (by rw [hs]; simp)]
    refine (LabelOut hb hn hC hx O (inS_f hs)).mono fun v' w' q => ?_
    obtain ⟨E, rfl⟩ := q
    rw [ha]; exact ⟨E, Own.nil _ _ _ _⟩
  · obtain ⟨i, rfl, hi⟩ := inS_t hs
    have ha : atS S (i : Int) = S.getD i default := by unfold atS; rw [if_pos hs, Int.toNat_natCast]
    obtain ⟨lv, m, C, hC, hx, O, ⟨hL, hW, hQ⟩, close⟩ := h.post hi
    have hll : (S.getD i default).label.length ≤ 100 := hl _ (getD_mem hi)
    rw [ha]
    exact LabelIn hb hn hi ⟨hC, rfl⟩ hx O hL hW hQ hll

theorem SessionsR {base k : Nat} {S : List KS} {M : List (List UInt8 × Int)} {F : Nat → Prop} {w : World} (hb : base ≤ w.heap.size) (hn : S.length ≤ 6) (h : KernR w base k S M F) : Ret Try.prog 49 #[ptr k 0] w (fun v' w' => v' = .int .i64 ((S.length : Nat) : Int) ∧ w' = w) := by
  obtain ⟨lv, m, C, _, _, _, hx, O, _, ⟨hC, _, _, _⟩, _⟩ := h.all
  exact Sessions_ret hb hn hC hx O
theorem SayR (s : Int) (x : List UInt8) {base k : Nat} {S : List KS} {M : List (List UInt8 × Int)} {F : Nat → Prop} {w : World} (hb : base ≤ w.heap.size) (hn : S.length ≤ 6) (h : KernR w base k S M F) : Ret Try.prog 40 #[ptr k 0, .int .i64 s, .string (bs x)] w (fun v' w' => Gr w w' F ∧ v' = .int .i64 (sayE S s) ∧ ∃ F', KernR w' base k (sayS S s x) M F' ∧ NewF w.heap.size F F') := by
  cases hs : inS S s
  · obtain ⟨lv, m, C, _, _, _, hx, O, _, ⟨hC, _, _, _⟩, _⟩ := h.all
    have ha : atS S s = ⟨[], [], []⟩ := by unfold atS; rw [if_neg (by rw [hs]; simp)]
    refine (SayOut x hb hn hC hx O (inS_f hs)).mono fun v' w' q => ?_
    obtain ⟨E, rfl⟩ := q
    refine ⟨Gr.ofBelow E F, congrArg (Value.int .i64) (by unfold sayE; rw [if_neg (by rw [hs]; simp)]), F, ?_, NewF.refl _ _⟩
    have hu : sayS S s x = S := by unfold sayS updS; rw [if_neg (by rw [hs]; simp)]
    rw [hu]; exact h.keepG (Gr.ofBelow E NoB) fun _ _ hh => hh
  · obtain ⟨i, rfl, hi⟩ := inS_t hs
    have ha : atS S (i : Int) = S.getD i default := by unfold atS; rw [if_pos hs, Int.toNat_natCast]
    obtain ⟨lv, m, C, hC, hx, O, ⟨hL, hW, hQ⟩, close⟩ := h.post hi
    refine (SayIn x hb hn hi ⟨hC, rfl⟩ hx O hL hW hQ).mono fun v' w' q => ?_
    obtain ⟨E, rfl, hQ'⟩ := q
    obtain ⟨E2, F2, hK, hN⟩ := close w' _ _ E hQ' (NewF.refl _ _)
    refine ⟨E2, congrArg (Value.int .i64) (by unfold sayE; rw [if_pos hs, ha]), F2, ?_, hN⟩
    have hu : sayS S (i : Int) x = S.set i { S.getD i default with texts := postL 16 (S.getD i default).texts x } := by unfold sayS updS; rw [if_pos hs, Int.toNat_natCast]
    rw [hu]; exact hK
theorem HeadR (s : Int) {base k : Nat} {S : List KS} {M : List (List UInt8 × Int)} {F : Nat → Prop} {w : World} (hb : base ≤ w.heap.size) (hn : S.length ≤ 6) (h : KernR w base k S M F) : Ret Try.prog 41 #[ptr k 0, .int .i64 s] w (fun v' w' => Gr w w' F ∧ v' = .tuple #[.string (bs ((atS S s).texts.getD 0 [])), .bool (decide (0 < (atS S s).texts.length))] ∧ ∃ F', KernR w' base k (S) M F' ∧ NewF w.heap.size F F') := by
  cases hs : inS S s
  · obtain ⟨lv, m, C, _, _, _, hx, O, _, ⟨hC, _, _, _⟩, _⟩ := h.all
    have ha : atS S s = ⟨[], [], []⟩ := by unfold atS; rw [if_neg (by rw [hs]; simp)]
    refine (HeadOut hb hn hC hx O (inS_f hs)).mono fun v' w' q => ?_
    obtain ⟨E, rfl⟩ := q
    rw [ha]
    exact ⟨Gr.ofBelow E F, rfl, F, h.keepG (Gr.ofBelow E NoB) fun _ _ hh => hh, NewF.refl _ _⟩
  · obtain ⟨i, rfl, hi⟩ := inS_t hs
    have ha : atS S (i : Int) = S.getD i default := by unfold atS; rw [if_pos hs, Int.toNat_natCast]
    obtain ⟨lv, m, C, hC, hx, O, ⟨hL, hW, hQ⟩, close⟩ := h.post hi
    refine (HeadIn hb hn hi ⟨hC, rfl⟩ hx O hL hW hQ).mono fun v' w' q => ?_
    obtain ⟨E, rfl, F', hQ', hN'⟩ := q
    obtain ⟨E2, F2, hK, hN⟩ := close w' _ _ E hQ' hN'
    rw [ha]
    have hu : S.set i { S.getD i default with texts := (S.getD i default).texts } = S := by
      apply List.ext_getElem?
      intro j
      by_cases hj : i = j
      · subst hj; simp [List.getD_eq_getElem?_getD, hi]
      · rw [List.getElem?_set_ne hj]
    rw [hu] at hK
    exact ⟨E2, rfl, F2, hK, hN⟩
theorem RaiseR (s : Int) {t : List UInt16} {tv : Value} {base k : Nat} {S : List KS} {M : List (List UInt8 × Int)} {F : Nat → Prop} {w : World} (hb : base ≤ w.heap.size) (hn : S.length ≤ 6) (h : KernR w base k S M F) (hl : ∀ x ∈ S, x.label.length ≤ 100) (htl : t.length ≤ 100) (ht : RdC w 0 w.heap.size 1 tv t.length (t.map u16v)) : Ret Try.prog 44 #[ptr k 0, .int .i64 s, tv] w (fun v' w' => Gr w w' F ∧ v' = .int .i64 (raiseSE S s t) ∧ ∃ F', KernR w' base k (raiseS S s t) M F' ∧ NewF w.heap.size F F') := by
  cases hs : inS S s
  · obtain ⟨lv, m, C, _, _, _, hx, O, _, ⟨hC, _, _, _⟩, _⟩ := h.all
    have ha : atS S s = ⟨[], [], []⟩ := by unfold atS; rw [if_neg (by rw [hs]; simp)]
    refine (RaiseOut tv hb hn hC hx O (inS_f hs)).mono fun v' w' q => ?_
    obtain ⟨E, rfl⟩ := q
    have hu : raiseS S s t = S := by unfold raiseS updS; rw [if_neg (by rw [hs]; simp)]
    rw [hu]
    exact ⟨Gr.ofBelow E F, congrArg (Value.int .i64) (by unfold raiseSE; rw [if_neg (by rw [hs]; simp)]), F, h.keepG (Gr.ofBelow E NoB) fun _ _ hh => hh, NewF.refl _ _⟩
  · obtain ⟨i, rfl, hi⟩ := inS_t hs
    have ha : atS S (i : Int) = S.getD i default := by unfold atS; rw [if_pos hs, Int.toNat_natCast]
    obtain ⟨lv, m, C, hC, hx, O, ⟨hL, hW, hQ⟩, close⟩ := h.relabel hb hi
    have hll : (S.getD i default).label.length ≤ 100 := hl _ (getD_mem hi)
    refine (RaiseIn hb hn hi ⟨hC, rfl⟩ hx O hL hW hQ hll htl ht).mono fun v' w' q => ?_
    obtain ⟨E, rfl, nv, O', hL', hn'⟩ := q
    obtain ⟨E2, F2, hK, hN⟩ := close w' nv _ E O' hL' hn'
    have hu : raiseS S (i : Int) t = S.set i { S.getD i default with label := raiseL (S.getD i default).label t } := by unfold raiseS updS; rw [if_pos hs, Int.toNat_natCast]
    rw [hu]
    exact ⟨E2, congrArg (Value.int .i64) (by unfold raiseSE; rw [if_pos hs, ha]), F2, hK, hN⟩
theorem StampR {x : List UInt16} {xv : Value} {base k : Nat} {S : List KS} {M : List (List UInt8 × Int)} {F : Nat → Prop} {w : World} (hb : base ≤ w.heap.size) (hxl : x.length ≤ 100) (hxr : RdC w 0 w.heap.size 1 xv x.length (x.map u16v)) (h : KernR w base k S M F) : Ret Try.prog 35 #[ptr k 0, xv] w (fun v' w' => Gr w w' F ∧ v' = .int .u64 (IntKind.u64.wrap ((mget M (putL x)).getD 0 + 1)) ∧ KernR w' base k S (mput M (putL x) (IntKind.u64.wrap ((mget M (putL x)).getD 0 + 1))) F) := by
  obtain ⟨lv, m, hx, hM, close⟩ := h.stamp
  refine (StampIn hb hxl hxr hx hM).mono fun v' w' q => ?_
  obtain ⟨E, rfl, hM'⟩ := q
  obtain ⟨E2, hK⟩ := close w' _ E hM'
  exact ⟨E2, rfl, hK⟩

theorem kernNewT {L : List CSn} {q : Int} {vL : Value} {w : World} (hok : cfgOk L q = true) (hL : L.length ≤ 9223372036854775807) (hll : ∀ x ∈ L, x.1.2.length ≤ 9223372036854775807 ∧ x.2.2.length ≤ 9223372036854775807) (hr : RdC w 0 w.heap.size 2 vL L.length (L.flatMap cells2)) (hlab : ∀ x9 ∈ (L.map Prod.fst), RdC w 0 w.heap.size 1 x9.1 x9.2.length (x9.2.map u16v)) (hown : ∀ x9 ∈ (L.map Prod.snd), RdC w 0 w.heap.size 1 x9.1 x9.2.length (x9.2.map u16v)) : Ret Try.prog 32 #[.agg #[vL, .int .i64 q]] w (fun v' w' => Below w.heap.size w w' ∧ ∃ (k : Nat) (F : Nat → Prop), v' = .tuple #[ptr k 0, .int .i64 0] ∧ KernR w' w.heap.size k (L.map ksOf) [] F) :=
  (kernNew_ret L q vL w hL hll hr hlab hown).mono fun v' w' h => ⟨h.1, h.2.elim (fun q => absurd (hok.symm.trans q.1) (by decide)) (fun q => q.2)⟩
end Go.Proofs.Ytmhdbphpmgjpcaa

/- Walks, written by a program: what each function of the translation hands back. -/
namespace Go.Proofs.Ytmhdbphpmgjpcaa
open Go.Gx Go.RowKit
attribute [local irreducible] wpList wpStill Code.wp Calls

theorem begun24_ret (w : World) : Ret Try.prog 31 #[] w (fun v' w' => Below w.heap.size w w' ∧ v' = .bool true) := by
 have hb := Below.refl w.heap.size w
 refine enter (N := 64) Try.func31 rfl rfl (by simp) fun a0 hN hd hA => ?_
 clear hA
 refine seq_any fun K1 hK1 => ?_
 refine one_reg ?_
 refine op_assign rfl ?_
 refine reg_nil ?_
 refine hK1 _ _ ?_
 refine seq_any fun K2 hK2 => ?_
 refine one_reg ?_
 refine op_build (pv := []) (v := (Value.agg #[(Value.slice none 0 0), (Value.slice none 0 0)])) trivial (by kernel_rfl) ?_
 refine op_bslice (e := 56) (pv := [(0, (Value.agg #[(Value.slice none 0 0), (Value.slice none 0 0)]))]) (cs := [(Value.slice none 0 0), (Value.slice none 0 0)]) ⟨rfl, (ev_hit hN rfl), trivial⟩ (by kernel_rfl) ?_
 intro w3 b4 lo_b4 hi_b4 hB6 E5
 have z_w3 := E5.size
 have hb := below_step0 hb E5 hb.size
 refine op_build (pv := [(1, (Value.int .i64 5)), (0, (Value.slice (some ⟨b4, 0, none⟩) 1 1))]) (v := (Value.agg #[(Value.slice (some ⟨b4, 0, none⟩) 1 1), (Value.int .i64 5)])) ⟨rfl, rfl, ⟨rfl, (ev_hit hN rfl), trivial⟩⟩ (by kernel_rfl) ?_
 refine op_fn (vs := [(Value.agg #[(Value.slice (some ⟨b4, 0, none⟩) 1 1), (Value.int .i64 5)])]) ok32 ⟨(ev_hit hN rfl), trivial⟩ (kernNewT (show cfgOk ([((Value.slice none 0 0, []), (Value.slice none 0 0, []))] : List CSn) 5 = true by decide) (L := ([((Value.slice none 0 0, []), (Value.slice none 0 0, []))] : List CSn)) (q := 5) (by decide) (fun x hx => by simp at hx; subst hx; decide) (by first | exact ((RdC.ofBx (sz := 2) (n := 1) hB6 rfl (by decide)).mono (Nat.zero_le _) (by have := hB6.lt; omega)) | exact (((RdC.ofBx (sz := 2) (n := 1) hB6 rfl (by decide)).mono (Nat.zero_le _) (by have := hB6.lt; omega))).cast (by simp) (by simp [cells2])) (fun x hx => by simp at hx; obtain rfl := hx; exact RdC.nil _ _ _ _) (fun x hx => by simp at hx; obtain rfl := hx; exact RdC.nil _ _ _ _)) ?_
 rintro _ w8 ⟨E9, k7, F7, rfl, hk7⟩
 have lo_F7 : ∀ x, F7 x → w3.heap.size ≤ x := fun x hx => (hk7.lt x hx).1
 have dj10 : ¬ F7 b4 := fun hf => by have := lo_F7 _ hf; have := hB6.lt; omega
 have E9 := grown_of_below E9
 have z_w8 := E9.size
 have hB6 := hB6.keep0 E9
 have hb := below_step0 hb E9 hb.size
 have hk7 : KernR w8 w.heap.size k7 ([⟨[], [], []⟩] : List KS) ([] : List (List UInt8 × Int)) F7 := hk7.mono (by omega)
 have ok_hk7 : SOk ([⟨[], [], []⟩] : List KS) := (cfg_ok (show cfgOk ([((Value.slice none 0 0, []), (Value.slice none 0 0, []))] : List CSn) 5 = true by decide)).2.2.2.2
 refine op_move (ev_hit hN rfl) ?_
 refine op_extract (ev_hit hN rfl) rfl ?_
 refine op_extract (ev_hit hN rfl) rfl ?_
 refine op_assign (ev_hit hN rfl) ?_
 refine op_assign (ev_hit hN rfl) ?_
 refine reg_nil ?_
 refine hK2 _ _ ?_
 refine seq_any fun K11 hK11 => ?_
 refine seq_any fun K12 hK12 => ?_
 refine one_reg ?_
 refine op_move (ev_hit hN rfl) ?_
 refine op_bin (v := .bool false) (ev_hit hN rfl) rfl (by rw [binOp_neq]; rfl) ?_
 refine op_move (ev_hit hN rfl) ?_
 refine g_true (j := 2) (dj := 16) (b := false) rfl rfl rfl (ev_hit hN rfl) ?_
 refine op_move (ev_hit hN rfl) ?_
 refine g_true (j := 2) (dj := 16) (b := false) rfl rfl rfl (ev_hit hN rfl) ?_
 refine op_peq_some ptrt50 (ev_hit hN rfl) rfl ?_
 refine op_pick_f (ev_hit hN rfl) (ev_hit hN rfl) ?_
 refine reg_nil ?_
 refine hK12 _ _ ?_
 refine wp_cond_false (ev_hit hN rfl) ?_
 refine wp_skip ?_
 refine hK11 _ _ ?_
 refine seq_any fun K13 hK13 => ?_
 refine one_reg ?_
 refine op_move (ev_hit hN rfl) ?_
 refine op_fn (vs := [(ptr k7 0), (Value.int .i64 0), (Value.string (bs [120]))]) ok40 ⟨(ev_hit hN rfl), ⟨rfl, ⟨rfl, trivial⟩⟩⟩ (SayR 0 ([120]) (by omega) ok_hk7.1 hk7) ?_
 rintro _ w15 ⟨E16, rfl, F14, hk14, hN14⟩
 have bd17 := hB6.lt
 have hk7_old := hk7
 have z_w15 := E16.size
 have hB6 := hB6.keepG E16 dj10
 have hb := below_stepG hb E16 hb.size (fun k hk => (hk7_old.lt k hk).1)
 have dj18 : ¬ F14 b4 := ne_stepF hN14 bd17 dj10
 have hk14 : KernR w15 w.heap.size k7 ([⟨[], [], [[120]]⟩] : List KS) ([] : List (List UInt8 × Int)) F14 := hk14
 refine op_assign (ev_hit hN rfl) ?_
 refine reg_nil ?_
 refine hK13 _ _ ?_
 refine seq_any fun K19 hK19 => ?_
 refine one_reg ?_
 refine op_move (ev_hit hN rfl) ?_
 refine op_fn (vs := [(ptr k7 0), (Value.int .i64 0)]) ok41 ⟨(ev_hit hN rfl), ⟨rfl, trivial⟩⟩ (HeadR 0 (by omega) (ok_hk7.say 0 ([120])).1 hk14) ?_
 rintro _ w21 ⟨E22, rfl, F20, hk20, hN20⟩
 have bd23 := hB6.lt
 have hk14_old := hk14
 have z_w21 := E22.size
 have hB6 := hB6.keepG E22 dj18
 have hb := below_stepG hb E22 hb.size (fun k hk => (hk14_old.lt k hk).1)
 have dj24 : ¬ F20 b4 := ne_stepF hN20 bd23 dj18
 refine op_move (ev_hit hN rfl) ?_
 refine op_extract (ev_hit hN rfl) rfl ?_
 refine op_extract (ev_hit hN rfl) rfl ?_
 refine op_assign (ev_hit hN rfl) ?_
 refine op_assign (ev_hit hN rfl) ?_
 refine reg_nil ?_
 refine hK19 _ _ ?_
 refine seq_any fun K25 hK25 => ?_
 refine one_reg ?_
 refine op_move (ev_hit hN rfl) ?_
 refine op_bslice (e := 46) (pv := [(0, (Value.int .u16 4))]) (cs := [(Value.int .u16 4)]) ⟨rfl, rfl, trivial⟩ (by kernel_rfl) ?_
 intro w26 b27 lo_b27 hi_b27 hB29 E28
 have dj30 : ¬ F20 b27 := fun hf => by have := (hk20.lt _ hf).2; omega
 have z_w26 := E28.size
 have hB6 := hB6.keep0 E28
 have hk20 := hk20.keepG (Gr.of0 E28 NoB) (fun _ _ h => h)
 have hb := below_step0 hb E28 hb.size
 refine op_fn (vs := [(ptr k7 0), (Value.int .i64 0), (Value.slice (some ⟨b27, 0, none⟩) 1 1)]) ok44 ⟨(ev_hit hN rfl), ⟨rfl, ⟨(ev_hit hN rfl), trivial⟩⟩⟩ (RaiseR 0 (t := [4]) (by omega) (ok_hk7.say 0 ([120])).1 hk20 (ok_hk7.say 0 ([120])).lab (by first | assumption | omega | (simp only [List.length_append, List.length_cons, List.length_nil, List.length_drop, List.length_take]; omega) | (dsimp only; omega) | decide | (simp [keyV, be8_len]; done)) (((RdC.ofBx (sz := 1) (n := 1) hB29 rfl (by decide)).mono (Nat.zero_le _) (by have := hB29.lt; omega)).cast (by simp) (by simp [u16v]))) ?_
 rintro _ w32 ⟨E33, rfl, F31, hk31, hN31⟩
 have bd34 := hB6.lt
 have bd35 := hB29.lt
 have hk20_old := hk20
 have z_w32 := E33.size
 have hB6 := hB6.keepG E33 dj24
 have hB29 := hB29.keepG E33 dj30
 have hb := below_stepG hb E33 hb.size (fun k hk => (hk20_old.lt k hk).1)
 have dj36 : ¬ F31 b4 := ne_stepF hN31 bd34 dj24
 have dj37 : ¬ F31 b27 := ne_stepF hN31 bd35 dj30
 have hk31 : KernR w32 w.heap.size k7 ([⟨[4], [], [[120]]⟩] : List KS) ([] : List (List UInt8 × Int)) F31 := hk31
 refine op_assign (ev_hit hN rfl) ?_
 refine reg_nil ?_
 refine hK25 _ _ ?_
 refine seq_any fun K38 hK38 => ?_
 refine one_reg ?_
 refine op_move (ev_hit hN rfl) ?_
 refine op_bin (v := .bool true) (ev_hit hN rfl) rfl (by rw [binOp_eql]; rfl) ?_
 refine op_move (ev_hit hN rfl) ?_
 refine g_true (j := 2) (dj := 32) (b := true) rfl rfl rfl (ev_hit hN rfl) ?_
 refine op_move (ev_hit hN rfl) ?_
 refine op_pick_t (ev_hit hN rfl) (ev_hit hN rfl) ?_
 refine op_move (ev_hit hN rfl) ?_
 refine g_true (j := 5) (dj := 35) (b := true) rfl rfl rfl (ev_hit hN rfl) ?_
 refine op_move (ev_hit hN rfl) ?_
 refine g_true (j := 5) (dj := 35) (b := true) rfl rfl rfl (ev_hit hN rfl) ?_
 refine op_seql (ev_hit hN rfl) rfl (fun c37 => ?_) (fun c37 => ?_)
 · -- 37T
  refine op_pick_t (ev_hit hN rfl) (ev_hit hN rfl) ?_
  refine op_move (ev_hit hN rfl) ?_
  refine g_true (j := 9) (dj := 39) (b := true) rfl rfl rfl (ev_hit hN rfl) ?_
  refine op_move (ev_hit hN rfl) ?_
  refine g_true (j := 9) (dj := 39) (b := true) rfl rfl rfl (ev_hit hN rfl) ?_
  refine op_bin (v := .bool true) (ev_hit hN rfl) rfl (by rw [binOp_eql]; rfl) ?_
  refine op_pick_t (ev_hit hN rfl) (ev_hit hN rfl) ?_
  refine op_move (ev_hit hN rfl) ?_
  refine g_true (j := 13) (dj := 43) (b := true) rfl rfl rfl (ev_hit hN rfl) ?_
  refine op_move (ev_hit hN rfl) ?_
  refine g_true (j := 13) (dj := 43) (b := true) rfl rfl rfl (ev_hit hN rfl) ?_
  refine op_fn (vs := [(ptr k7 0), (Value.int .i64 0)]) ok37 ⟨(ev_hit hN rfl), ⟨rfl, trivial⟩⟩ (LabelR 0 (by omega) ((ok_hk7.say 0 ([120])).raise 0 [4]).1 hk31 ((ok_hk7.say 0 ([120])).raise 0 [4]).lab) ?_
  rintro v39 w40 ⟨E41, hO39⟩
  have dj42 : Dj F31 (Bl v39) := Dj.fresh (fun k hk => (hk31.lt k hk).2) (fun k hk => (hO39.lt k hk).1)
  have E41 := grown_of_below E41
  have z_w40 := E41.size
  have hB6 := hB6.keep0 E41
  have hB29 := hB29.keep0 E41
  have hk31 := hk31.keepG (Gr.of0 E41 NoB) (fun _ _ h => h)
  have hb := below_step0 hb E41 hb.size
  have hO39 := hO39.mono (base' := w.heap.size) (by omega)
  have hl39 := mayL_len (((ok_hk7.say 0 ([120])).raise 0 [4]).at 0).1
  refine g_true (j := 13) (dj := 43) (b := true) rfl rfl rfl (ev_hit hN rfl) ?_
  refine op_len_rd Try.underlying54 (ev_hit hN rfl) hO39.rdw ?_
  refine g_true (j := 13) (dj := 43) (b := true) rfl rfl rfl (ev_hit hN rfl) ?_
  refine op_eql (ev_hit hN rfl) rfl (fun c47 => ?_) (fun c47 => ?_)
  · -- 47T
   refine op_pick_t (ev_hit hN rfl) (ev_hit hN rfl) ?_
   refine op_move (ev_hit hN rfl) ?_
   refine g_true (j := 19) (dj := 49) (b := true) rfl rfl rfl (ev_hit hN rfl) ?_
   refine op_move (ev_hit hN rfl) ?_
   refine g_true (j := 19) (dj := 49) (b := true) rfl rfl rfl (ev_hit hN rfl) ?_
   refine op_fn (vs := [(ptr k7 0), (Value.slice none 0 0)]) ok35 ⟨(ev_hit hN rfl), ⟨rfl, trivial⟩⟩ (StampR (x := []) (by omega) (by first | assumption | omega | (simp only [List.length_append, List.length_cons, List.length_nil, List.length_drop, List.length_take]; omega) | (dsimp only; omega) | decide | (simp [keyV, be8_len]; done)) ((RdC.nil _ 0 0 1).mono (Nat.zero_le _) (by omega)) hk31) ?_
   rintro _ w44 ⟨E45, rfl, hk43⟩
   have hk31_old := hk31
   have z_w44 := E45.size
   have hB6 := hB6.keepG E45 dj36
   have hB29 := hB29.keepG E45 dj37
   have hO39 := hO39.keepG E45 dj42.symm
   have hb := below_stepG hb E45 hb.size (fun k hk => (hk31_old.lt k hk).1)
   have hk43 : KernR w44 w.heap.size k7 ([⟨[4], [], [[120]]⟩] : List KS) ([(putL [], 1)] : List (List UInt8 × Int)) F31 := hk43
   refine g_true (j := 19) (dj := 49) (b := true) rfl rfl rfl (ev_hit hN rfl) ?_
   refine op_bin (v := .bool true) (ev_hit hN rfl) rfl (by rw [binOp_eql]; rfl) ?_
   refine op_pick_t (ev_hit hN rfl) (ev_hit hN rfl) ?_
   refine op_move (ev_hit hN rfl) ?_
   refine g_true (j := 24) (dj := 54) (b := true) rfl rfl rfl (ev_hit hN rfl) ?_
   refine op_move (ev_hit hN rfl) ?_
   refine g_true (j := 24) (dj := 54) (b := true) rfl rfl rfl (ev_hit hN rfl) ?_
   refine op_fn (vs := [(ptr k7 0), (Value.slice none 0 0)]) ok35 ⟨(ev_hit hN rfl), ⟨rfl, trivial⟩⟩ (StampR (x := []) (by omega) (by first | assumption | omega | (simp only [List.length_append, List.length_cons, List.length_nil, List.length_drop, List.length_take]; omega) | (dsimp only; omega) | decide | (simp [keyV, be8_len]; done)) ((RdC.nil _ 0 0 1).mono (Nat.zero_le _) (by omega)) hk43) ?_
   rintro _ w47 ⟨E48, rfl, hk46⟩
   have hk43_old := hk43
   have z_w47 := E48.size
   have hB6 := hB6.keepG E48 dj36
   have hB29 := hB29.keepG E48 dj37
   have hO39 := hO39.keepG E48 dj42.symm
   have hb := below_stepG hb E48 hb.size (fun k hk => (hk43_old.lt k hk).1)
   have hk46 : KernR w47 w.heap.size k7 ([⟨[4], [], [[120]]⟩] : List KS) ([(putL [], 2)] : List (List UInt8 × Int)) F31 := hk46
   refine g_true (j := 24) (dj := 54) (b := true) rfl rfl rfl (ev_hit hN rfl) ?_
   refine op_bin (v := .bool true) (ev_hit hN rfl) rfl (by rw [binOp_eql]; rfl) ?_
   refine op_pick_t (ev_hit hN rfl) (ev_hit hN rfl) ?_
   refine op_move (ev_hit hN rfl) ?_
   refine g_true (j := 29) (dj := 59) (b := true) rfl rfl rfl (ev_hit hN rfl) ?_
   refine op_move (ev_hit hN rfl) ?_
   refine g_true (j := 29) (dj := 59) (b := true) rfl rfl rfl (ev_hit hN rfl) ?_
   refine op_fn (vs := [(ptr k7 0)]) ok49 ⟨(ev_hit hN rfl), trivial⟩ (Ret.flip (SessionsR (by omega) ((ok_hk7.say 0 ([120])).raise 0 [4]).1 hk46)) ?_
   rintro _ _ ⟨rfl, rfl⟩
   refine g_true (j := 29) (dj := 59) (b := true) rfl rfl rfl (ev_hit hN rfl) ?_
   refine op_eql (ev_hit hN rfl) rfl (fun c62 => ?_) (fun c62 => ?_)
   · -- 62T
    refine op_pick_t (ev_hit hN rfl) (ev_hit hN rfl) ?_
    refine op_assign (ev_hit hN rfl) ?_
    refine reg_nil ?_
    refine hK38 _ _ ?_
    refine wp_ret ?_
    refine ret1 rfl hd (ev_hit hN rfl) ⟨_, rfl, ?_⟩
    -- path 37T 47T 62T
    exact ⟨hb, rfl⟩
   · -- 62F
    exact absurd rfl c62
  · -- 47F
   exact absurd rfl c47
 · -- 37F
  exact absurd rfl c37

end Go.Proofs.Ytmhdbphpmgjpcaa

/- Plain facts on lists that are merged by picks. -/
namespace Go.Gx
abbrev LU := List UInt16
abbrev LbU := Value × LU
def DU : LbU := (.slice none 0 0, [])
theorem takeS {α : Type} {l : List α} {i : Nat} {d : α} (h : i < l.length) : l.take (i + 1) = l.take i ++ [l.getD i d] := by simp [List.getD_eq_getElem?_getD, h]
theorem map2_getD {M : List LbU} {k : Nat} : (M.map Prod.snd).getD k [] = (M.getD k DU).2 := by
  simp only [List.getD_eq_getElem?_getD, List.getElem?_map]
  cases M[k]? <;> rfl
/-- a list told by where one is in each -/
def AtIs (X : List LU) (A : List Nat) (S : List LU) : Prop := A.length = X.length ∧ S.length = X.length ∧ ∀ k, S.getD k [] = (X.getD k []).drop (A.getD k 0)
theorem AtIs.start (X : List LU) : AtIs X (List.replicate X.length 0) X := ⟨by simp, rfl, fun k => by
  have : (List.replicate X.length 0).getD k 0 = 0 := by simp only [List.getD_eq_getElem?_getD, List.getElem?_replicate]; split <;> rfl
  rw [this]; rfl⟩
theorem getD_set_ne {α : Type} {l : List α} {i j : Nat} {x d : α} (h : i ≠ j) : (l.set i x).getD j d = l.getD j d := by simp [List.getD_eq_getElem?_getD, List.getElem?_set_ne h]
theorem getD_set_eq {α : Type} {l : List α} {i : Nat} {x d : α} (h : i < l.length) : (l.set i x).getD i d = x := by simp [List.getD_eq_getElem?_getD, h]
/-! sums of lengths -/
/-- one is nowhere behind an end -/
def AtLe (M : List LbU) (A : List Nat) : Prop := ∀ k, A.getD k 0 ≤ (M.getD k DU).2.length
theorem AtLe.start (M : List LbU) (n : Nat) : AtLe M (List.replicate n 0) := fun k => by
  have : (List.replicate n 0).getD k 0 = 0 := by simp only [List.getD_eq_getElem?_getD, List.getElem?_replicate]; split <;> rfl
  rw [this]; exact Nat.zero_le _
theorem AtLe.step {M : List LbU} {A : List Nat} (h : AtLe M A) {k : Nat} (hn : A.getD k 0 < (M.getD k DU).2.length) : AtLe M (A.set k (A.getD k 0 + 1)) := fun j => by
  by_cases hj : k = j
  · subst hj
    by_cases hk : k < A.length
    · rw [getD_set_eq hk]; omega
    · have := h k
      rw [List.set_eq_of_length_le (by omega)]; exact this
  · rw [getD_set_ne hj]; exact h j
/-! lists of numbers -/
def nv (n : Nat) : Value := .int .i64 (n : Int)
end Go.Gx

/- Plain facts on stamps: what is counted by labels' bytes. -/
namespace Go.Proofs.Ytmhdbphpmgjpcaa
open Go.Gx
theorem putL_inj {x y : List UInt16} (hx : mayL x = true) (hy : mayL y = true) (h : putL x = putL y) : x = y := by
  have h1 := takeL_put hx []
  have h2 := takeL_put hy []
  rw [h, h2] at h1
  exact (congrArg Prod.fst h1).symm
def StampsOk (M : List (List UInt8 × Int)) (A : List (List UInt16)) : Prop := (M.map Prod.fst).Nodup ∧ ∀ x, mayL x = true → (mget M (putL x)).getD 0 = ((A.count x : Nat) : Int)
theorem StampsOk.start : StampsOk [] [] := ⟨by simp, fun x _ => rfl⟩
theorem StampsOk.step {M : List (List UInt8 × Int)} {A : List (List UInt16)} {x : List UInt16} (h : StampsOk M A) (hx : mayL x = true) (hA : A.length ≤ 1000) :
    IntKind.u64.wrap ((mget M (putL x)).getD 0 + 1) = ((A.count x + 1 : Nat) : Int) ∧ StampsOk (mput M (putL x) (IntKind.u64.wrap ((mget M (putL x)).getD 0 + 1))) (A ++ [x]) := by
  have hc : A.count x ≤ A.length := List.count_le_length
  have hw : IntKind.u64.wrap ((mget M (putL x)).getD 0 + 1) = ((A.count x + 1 : Nat) : Int) := by
    rw [h.2 x hx]; simp only [IntKind.wrap, IntKind.bits, IntKind.signed]; simp; omega
  refine ⟨hw, nodup_mput h.1, fun y hy => ?_⟩
  rw [mget_mput h.1, hw]
  by_cases hxy : putL y = putL x
  · obtain rfl := putL_inj hy hx hxy
    rw [if_pos rfl, List.count_append]; simp
  · rw [if_neg hxy, h.2 y hy, List.count_append]
    have : ¬ x = y := fun e => hxy (by rw [e])
    simp [List.count_cons, this]
theorem may_upto {L : List LbU} {i : Nat} (h : ∀ j, j < i → mayL (L.getD j DU).2 = true) (h1 : mayL (L.getD i DU).2 = true) : ∀ j, j < i + 1 → mayL (L.getD j DU).2 = true := fun j hj => by
  by_cases hji : j = i
  · subst hji; exact h1
  · exact h j (by omega)
theorem count_t {A : List (List UInt16)} {j : Nat} {x : List UInt16} (hj : j < A.length) (h : x = A.getD j []) : (A.take (j + 1)).count x = (A.take j).count x + 1 := by
  rw [takeS (d := []) hj, List.count_append, ← h]; simp
theorem count_f {A : List (List UInt16)} {j : Nat} {x : List UInt16} (hj : j < A.length) (h : ¬ x = A.getD j []) : (A.take (j + 1)).count x = (A.take j).count x := by
  rw [takeS (d := []) hj, List.count_append]
  have : ¬ A.getD j [] = x := fun e => h e.symm
  have h0 : List.count x [A.getD j []] = 0 := by rw [List.count_eq_zero]; simp only [List.mem_singleton]; exact h
  omega
end Go.Proofs.Ytmhdbphpmgjpcaa

/- Walks, written by a program: what each function of the translation hands back. -/
namespace Go.Proofs.Ytmhdbphpmgjpcaa
open Go.Gx Go.RowKit
attribute [local irreducible] wpList wpStill Code.wp Calls

theorem KernStamps_ret (L : List LbU) (vL : Value) (w : World) (hL : L.length ≤ 9223372036854775807) (hsz : ∀ x ∈ L, x.2.length ≤ 9223372036854775807) (hr : RdC w 0 w.heap.size 1 vL L.length (L.flatMap (fun x9 => [x9.1]))) (hall : ∀ x9 ∈ L, RdC w 0 w.heap.size 1 x9.1 x9.2.length (x9.2.map u16v)) : Ret Try.prog 5 #[vL] w (fun v' w' => Below w.heap.size w w' ∧ v' = .bool true) := by
 have hb := Below.refl w.heap.size w
 refine enter (N := 58) Try.func5 rfl rfl (by simp) fun a0 hN hd hA => ?_
 have s0 : a0.tmps.getD 0 undef = vL := hA 0 (by simp)
 clear hA
 refine seq_any fun K1 hK1 => ?_
 refine one_reg ?_
 refine op_assign rfl ?_
 refine reg_nil ?_
 refine hK1 _ _ ?_
 refine seq_any fun K2 hK2 => ?_
 refine seq_any fun K3 hK3 => ?_
 refine one_reg ?_
 refine op_fn (vs := []) ok31 trivial (begun24_ret _) ?_
 rintro _ w4 ⟨E5, rfl⟩
 have E5 := grown_of_below E5
 have z_w4 := E5.size
 have hr := hr.keep0 E5
 have hall : ∀ x9 ∈ L, RdC w4 0 w.heap.size 1 x9.1 x9.2.length (x9.2.map u16v) := fun x9 hx9 => (hall x9 hx9).keep0 E5
 have hb := below_step0 hb E5 hb.size
 refine op_not (ev_hit hN rfl) ?_
 refine reg_nil ?_
 refine hK3 _ _ ?_
 refine wp_cond_false (ev_hit hN rfl) ?_
 refine wp_skip ?_
 refine hK2 _ _ ?_
 refine seq_any fun K6 hK6 => ?_
 refine seq_any fun K7 hK7 => ?_
 refine one_reg ?_
 refine op_move (ev_base hN rfl s0) ?_
 refine op_len_rd Try.underlying49 (ev_hit hN rfl) hr ?_
 refine op_gtr (ev_hit hN rfl) rfl (fun c12 => ?_) (fun c12 => ?_)
 · -- 12T
  refine reg_nil ?_
  refine hK7 _ _ ?_
  refine wp_cond_true (ev_hit hN rfl) ?_
  refine seq_any fun K8 hK8 => ?_
  refine one_reg ?_
  refine op_assign rfl ?_
  refine reg_nil ?_
  refine hK8 _ _ ?_
  refine wp_ret (then_ret ( ?_))
  refine ret1 rfl hd (ev_hit hN rfl) ⟨_, rfl, ?_⟩
  -- path 12T
  exact ⟨hb, rfl⟩
 · -- 12F
  refine reg_nil ?_
  refine hK7 _ _ ?_
  refine wp_cond_false (ev_hit hN rfl) ?_
  refine wp_skip ?_
  refine hK6 _ _ ?_
  refine seq_any fun K9 hK9 => ?_
  refine one_reg ?_
  refine op_build (pv := []) (v := (Value.agg #[(Value.slice none 0 0), (Value.slice none 0 0)])) trivial (by kernel_rfl) ?_
  refine op_bslice (e := 56) (pv := [(0, (Value.agg #[(Value.slice none 0 0), (Value.slice none 0 0)]))]) (cs := [(Value.slice none 0 0), (Value.slice none 0 0)]) ⟨rfl, (ev_hit hN rfl), trivial⟩ (by kernel_rfl) ?_
  intro w10 b11 lo_b11 hi_b11 hB13 E12
  have z_w10 := E12.size
  have hr := hr.keep0 E12
  have hall : ∀ x9 ∈ L, RdC w10 0 w.heap.size 1 x9.1 x9.2.length (x9.2.map u16v) := fun x9 hx9 => (hall x9 hx9).keep0 E12
  have hb := below_step0 hb E12 hb.size
  refine op_build (pv := [(1, (Value.int .i64 5)), (0, (Value.slice (some ⟨b11, 0, none⟩) 1 1))]) (v := (Value.agg #[(Value.slice (some ⟨b11, 0, none⟩) 1 1), (Value.int .i64 5)])) ⟨rfl, rfl, ⟨rfl, (ev_hit hN rfl), trivial⟩⟩ (by kernel_rfl) ?_
  refine op_fn (vs := [(Value.agg #[(Value.slice (some ⟨b11, 0, none⟩) 1 1), (Value.int .i64 5)])]) ok32 ⟨(ev_hit hN rfl), trivial⟩ (kernNewT (show cfgOk ([((Value.slice none 0 0, []), (Value.slice none 0 0, []))] : List CSn) 5 = true by decide) (L := ([((Value.slice none 0 0, []), (Value.slice none 0 0, []))] : List CSn)) (q := 5) (by decide) (fun x hx => by simp at hx; subst hx; decide) (by first | exact ((RdC.ofBx (sz := 2) (n := 1) hB13 rfl (by decide)).mono (Nat.zero_le _) (by have := hB13.lt; omega)) | exact (((RdC.ofBx (sz := 2) (n := 1) hB13 rfl (by decide)).mono (Nat.zero_le _) (by have := hB13.lt; omega))).cast (by simp) (by simp [cells2])) (fun x hx => by simp at hx; obtain rfl := hx; exact RdC.nil _ _ _ _) (fun x hx => by simp at hx; obtain rfl := hx; exact RdC.nil _ _ _ _)) ?_
  rintro _ w15 ⟨E16, k14, F14, rfl, hk14⟩
  have lo_F14 : ∀ x, F14 x → w10.heap.size ≤ x := fun x hx => (hk14.lt x hx).1
  have dj17 : ¬ F14 b11 := fun hf => by have := lo_F14 _ hf; have := hB13.lt; omega
  have E16 := grown_of_below E16
  have z_w15 := E16.size
  have hr := hr.keep0 E16
  have hall : ∀ x9 ∈ L, RdC w15 0 w.heap.size 1 x9.1 x9.2.length (x9.2.map u16v) := fun x9 hx9 => (hall x9 hx9).keep0 E16
  have hB13 := hB13.keep0 E16
  have hb := below_step0 hb E16 hb.size
  have hk14 : KernR w15 w.heap.size k14 ([⟨[], [], []⟩] : List KS) ([] : List (List UInt8 × Int)) F14 := hk14.mono (by omega)
  have ok_hk14 : SOk ([⟨[], [], []⟩] : List KS) := (cfg_ok (show cfgOk ([((Value.slice none 0 0, []), (Value.slice none 0 0, []))] : List CSn) 5 = true by decide)).2.2.2.2
  refine op_move (ev_hit hN rfl) ?_
  refine op_extract (ev_hit hN rfl) rfl ?_
  refine op_extract (ev_hit hN rfl) rfl ?_
  refine op_assign (ev_hit hN rfl) ?_
  refine op_assign (ev_hit hN rfl) ?_
  refine reg_nil ?_
  refine hK9 _ _ ?_
  refine seq_any fun K18 hK18 => ?_
  refine seq_any fun K19 hK19 => ?_
  refine one_reg ?_
  refine op_move (ev_hit hN rfl) ?_
  refine op_bin (v := .bool false) (ev_hit hN rfl) rfl (by rw [binOp_neq]; rfl) ?_
  refine reg_nil ?_
  refine hK19 _ _ ?_
  refine wp_cond_false (ev_hit hN rfl) ?_
  refine wp_skip ?_
  refine hK18 _ _ ?_
  refine seq_any fun K20 hK20 => ?_
  refine seq_any fun K21 hK21 => ?_
  refine one_reg ?_
  refine op_assign rfl ?_
  refine reg_nil ?_
  refine hK21 _ _ ?_
  refine wp_block ?_
  refine loop_m (fun mz_ az_ w' => ∃ (i : Nat) (M : List (List UInt8 × Int)), mz_ = L.length - i ∧ (az_.tmps.getD 0 undef = vL) ∧ (az_.tmps.getD 3 undef = (ptr k14 0)) ∧ (az_.tmps.getD 5 undef = (Value.int .i64 ((i : Nat) : Int))) ∧ (i ≤ L.length) ∧ (StampsOk M ((L.map Prod.snd).take i)) ∧ (∀ j, j < i → mayL (L.getD j DU).2 = true) ∧ (Below w.heap.size w w') ∧ (w15.heap.size ≤ w'.heap.size) ∧ (RdC w' 0 w.heap.size 1 vL L.length (L.flatMap (fun x9 => [x9.1]))) ∧ (∀ x9 ∈ L, RdC w' 0 w.heap.size 1 x9.1 x9.2.length (x9.2.map u16v)) ∧ (Bx w' b11 56 [(Value.slice none 0 0), (Value.slice none 0 0)]) ∧ (KernR w' w.heap.size k14 ([⟨[], [], []⟩] : List KS) M F14)) _ hN hd ⟨0, [], rfl, (sl_base hN rfl s0), (sl_hit hN rfl), (sl_hit hN rfl), (Nat.zero_le _), StampsOk.start, (fun _ h => absurd h (Nat.not_lt_zero _)), hb, (Nat.le_refl _), hr, hall, hB13, hk14⟩ ?_
  rintro _ a22 w22 hN22 hd22 ⟨i, M, rfl, s22_0, s22_3, s22_5, hi, hS, hm, hb, zl_w22, hr, hall, hB13, hK⟩
  have z_w22 := hb.size
  refine seq_any fun K23 hK23 => ?_
  refine seq_any fun K24 hK24 => ?_
  refine one_reg ?_
  refine op_move (ev_base hN22 rfl s22_5) ?_
  refine op_move (ev_base hN22 rfl s22_0) ?_
  refine op_len_rd Try.underlying49 (ev_hit hN22 rfl) hr ?_
  refine op_lss (ev_hit hN22 rfl) (ev_hit hN22 rfl) (fun c25 => ?_) (fun c25 => ?_)
  · -- 25T
   refine reg_nil ?_
   refine hK24 _ _ ?_
   refine wp_cond_true (ev_hit hN22 rfl) ?_
   refine wp_skip ?_
   refine hK23 _ _ ?_
   refine seq_any fun K25 hK25 => ?_
   refine wp_block ?_
   refine seq_any fun K26 hK26 => ?_
   refine seq_any fun K27 hK27 => ?_
   refine one_reg ?_
   refine op_move (ev_base hN22 rfl s22_0) ?_
   refine op_move (ev_base hN22 rfl s22_5) ?_
   refine op_index_rd slt49 (ev_hit hN22 rfl) hr (ev_hit hN22 rfl) (by omega) (by omega) ?_
   intro b28 o29 h0b28 h1b28 hc30
   have hs31 : RdC w22 0 w.heap.size 1 (L.getD i DU).1 (L.getD i DU).2.length ((L.getD i DU).2.map u16v) := hall _ (getD_mem (by omega))
   refine op_load1 (v := (L.getD i DU).1) one54 (ev_hit hN22 rfl) (by have := hc30 0 (L.getD i DU).1 (by decide) (el_ll (i := i) (d := DU) (by omega) (by omega)); simpa using this) ?_
   have hsi := hsz _ (getD_mem (d := DU) (show i < L.length by omega))
   refine op_fn (vs := [(L.getD i DU).1]) ok33 ⟨(ev_hit hN22 rfl), trivial⟩ (refMay_ret (L.getD i DU).2 _ _ (by first | assumption | omega | (simp only [List.length_append, List.length_cons, List.length_nil, List.length_drop, List.length_take]; omega) | (dsimp only; omega) | decide | (simp [keyV, be8_len]; done)) (show RdC w22 0 w22.heap.size 1 (L.getD i DU).1 (L.getD i DU).2.length ((L.getD i DU).2.map u16v) from by have hh : RdC w22 0 w22.heap.size 1 _ _ _ := (hs31.mono (L' := 0) (B' := w22.heap.size) (Nat.zero_le _) (by omega)); first | exact hh | exact hh.cast (by first | omega | (simp; try omega)) (by first | rfl | simp [u16v]))) ?_
   rintro _ w32 ⟨E33, rfl⟩
   have E33 := grown_of_below E33
   have z_w32 := E33.size
   have hr := hr.keep0 E33
   have hall : ∀ x9 ∈ L, RdC w32 0 w.heap.size 1 x9.1 x9.2.length (x9.2.map u16v) := fun x9 hx9 => (hall x9 hx9).keep0 E33
   have hB13 := hB13.keep0 E33
   have hK := hK.keepG (Gr.of0 E33 NoB) (fun _ _ h => h)
   have hs31 := hs31.keep0 E33
   have hb := below_step0 hb E33 hb.size
   rcases Bool.eq_false_or_eq_true ((mayL (L.getD i DU).2)) with c32 | c32
   · -- 32T
    rw [c32]
    refine op_not (ev_hit hN22 rfl) ?_
    refine reg_nil ?_
    refine hK27 _ _ ?_
    refine wp_cond_false (ev_hit hN22 rfl) ?_
    refine wp_skip ?_
    refine hK26 _ _ ?_
    refine seq_any fun K34 hK34 => ?_
    refine one_reg ?_
    refine op_assign rfl ?_
    refine reg_nil ?_
    refine hK34 _ _ ?_
    refine seq_any fun K35 hK35 => ?_
    refine seq_any fun K36 hK36 => ?_
    refine one_reg ?_
    refine op_assign rfl ?_
    refine reg_nil ?_
    refine hK36 _ _ ?_
    refine wp_block ?_
    refine loop_m (fun mz_ az_ w' => ∃ (j : Nat), mz_ = i - j ∧ (az_.tmps.getD 0 undef = vL) ∧ (az_.tmps.getD 3 undef = (ptr k14 0)) ∧ (az_.tmps.getD 5 undef = (Value.int .i64 ((i : Nat) : Int))) ∧ (az_.tmps.getD 7 undef = (Value.int .i64 ((j : Nat) : Int))) ∧ (az_.tmps.getD 6 undef = (Value.int .u64 ((1 + (((L.map Prod.snd).take j).count (L.getD i DU).2) : Nat) : Int))) ∧ (j ≤ i) ∧ (Below w.heap.size w w') ∧ (w32.heap.size ≤ w'.heap.size) ∧ (RdC w' 0 w.heap.size 1 vL L.length (L.flatMap (fun x9 => [x9.1]))) ∧ (∀ x9 ∈ L, RdC w' 0 w.heap.size 1 x9.1 x9.2.length (x9.2.map u16v)) ∧ (Bx w' b11 56 [(Value.slice none 0 0), (Value.slice none 0 0)]) ∧ (KernR w' w.heap.size k14 ([⟨[], [], []⟩] : List KS) M F14) ∧ (RdC w' 0 w.heap.size 1 (L.getD i DU).1 (L.getD i DU).2.length ((L.getD i DU).2.map u16v))) _ hN22 hd22 ⟨0, rfl, (sl_base hN22 rfl s22_0), (sl_base hN22 rfl s22_3), (sl_base hN22 rfl s22_5), (sl_hit hN22 rfl), (sl_hit hN22 rfl), (Nat.zero_le _), hb, (Nat.le_refl _), hr, hall, hB13, hK, hs31⟩ ?_
    rintro _ a37 w37 hN37 hd37 ⟨j, rfl, s37_0, s37_3, s37_5, s37_7, s37_6, hj, hb, zl_w37, hr, hall, hB13, hK, hs31⟩
    have z_w37 := hb.size
    refine seq_any fun K38 hK38 => ?_
    refine seq_any fun K39 hK39 => ?_
    refine one_reg ?_
    refine op_move (ev_base hN37 rfl s37_7) ?_
    refine op_move (ev_base hN37 rfl s37_5) ?_
    refine op_lss (ev_hit hN37 rfl) (ev_hit hN37 rfl) (fun c36 => ?_) (fun c36 => ?_)
    · -- 36T
     refine reg_nil ?_
     refine hK39 _ _ ?_
     refine wp_cond_true (ev_hit hN37 rfl) ?_
     refine wp_skip ?_
     refine hK38 _ _ ?_
     refine seq_any fun K40 hK40 => ?_
     refine wp_block ?_
     refine seq_any fun K41 hK41 => ?_
     have hmi := mayL_len c32
     have hmj := mayL_len (hm j (by omega))
     have hcl : (((L.map Prod.snd).take j).count (L.getD i DU).2) ≤ j := Nat.le_trans List.count_le_length (by simp; omega)
     refine reg_from mixed ?_
     intro w43 E42
     have z_w43 := E42.size
     have hr := hr.keep0 E42
     have hall : ∀ x9 ∈ L, RdC w43 0 w.heap.size 1 x9.1 x9.2.length (x9.2.map u16v) := fun x9 hx9 => (hall x9 hx9).keep0 E42
     have hB13 := hB13.keep0 E42
     have hK := hK.keepG (Gr.of0 E42 NoB) (fun _ _ h => h)
     have hs31 := hs31.keep0 E42
     have hb := below_step0 hb E42 hb.size
     refine from_still (m := 8) 8 (hd := [_, _, _, _, _, _, _, _]) (by kernel_rfl) rfl rfl ?_
     refine st_step rfl (fun _ h9 => op_move (ev_base hN37 rfl s37_0) h9) ?_
     refine st_step rfl (fun _ h9 => op_move (ev_base hN37 rfl s37_5) h9) ?_
     refine st_index_rd slt49 (ev_hit hN37 rfl) hr (ev_hit hN37 rfl) (by omega) (by omega) ?_
     intro b44 o45 h0b44 h1b44 hc46
     refine st_step rfl (fun _ h9 => op_load1 (v := (L.getD i DU).1) one54 (ev_hit hN37 rfl) (by have := hc46 0 (L.getD i DU).1 (by decide) (el_ll (i := i) (d := DU) (by omega) (by omega)); simpa using this) h9) ?_
     refine st_step rfl (fun _ h9 => op_move (ev_base hN37 rfl s37_0) h9) ?_
     refine st_step rfl (fun _ h9 => op_move (ev_base hN37 rfl s37_7) h9) ?_
     refine st_index_rd slt49 (ev_hit hN37 rfl) hr (ev_hit hN37 rfl) (by omega) (by omega) ?_
     intro b48 o49 h0b48 h1b48 hc50
     have hs51 : RdC w43 0 w.heap.size 1 (L.getD j DU).1 (L.getD j DU).2.length ((L.getD j DU).2.map u16v) := hall _ (getD_mem (by omega))
     refine st_step rfl (fun _ h9 => op_load1 (v := (L.getD j DU).1) one54 (ev_hit hN37 rfl) (by have := hc50 0 (L.getD j DU).1 (by decide) (el_ll (i := j) (d := DU) (by omega) (by omega)); simpa using this) h9) ?_
     refine st_nil ?_
     refine from_seq (tl := [_]) (by decide) (by kernel_rfl) rfl ?_
     refine op_fn (vs := [(L.getD i DU).1, (L.getD j DU).1]) ok34 ⟨(ev_hit hN37 rfl), ⟨(ev_hit hN37 rfl), trivial⟩⟩ (sameL_ret (L.getD i DU).2 (L.getD j DU).2 _ _ _ (by first | assumption | omega | (simp only [List.length_append, List.length_cons, List.length_nil, List.length_drop, List.length_take]; omega) | (dsimp only; omega) | decide | (simp [keyV, be8_len]; done)) (by first | assumption | omega | (simp only [List.length_append, List.length_cons, List.length_nil, List.length_drop, List.length_take]; omega) | (dsimp only; omega) | decide | (simp [keyV, be8_len]; done)) (show RdC w43 0 w43.heap.size 1 (L.getD i DU).1 (L.getD i DU).2.length ((L.getD i DU).2.map u16v) from by have hh : RdC w43 0 w43.heap.size 1 _ _ _ := (hs31.mono (L' := 0) (B' := w43.heap.size) (Nat.zero_le _) (by omega)); first | exact hh | exact hh.cast (by first | omega | (simp; try omega)) (by first | rfl | simp [u16v])) (show RdC w43 0 w43.heap.size 1 (L.getD j DU).1 (L.getD j DU).2.length ((L.getD j DU).2.map u16v) from by have hh : RdC w43 0 w43.heap.size 1 _ _ _ := (hs51.mono (L' := 0) (B' := w43.heap.size) (Nat.zero_le _) (by omega)); first | exact hh | exact hh.cast (by first | omega | (simp; try omega)) (by first | rfl | simp [u16v]))) ?_
     rintro _ w52 ⟨E53, rfl⟩
     have E53 := grown_of_below E53
     have z_w52 := E53.size
     have hr := hr.keep0 E53
     have hall : ∀ x9 ∈ L, RdC w52 0 w.heap.size 1 x9.1 x9.2.length (x9.2.map u16v) := fun x9 hx9 => (hall x9 hx9).keep0 E53
     have hB13 := hB13.keep0 E53
     have hK := hK.keepG (Gr.of0 E53 NoB) (fun _ _ h => h)
     have hs31 := hs31.keep0 E53
     have hs51 := hs51.keep0 E53
     have hb := below_step0 hb E53 hb.size
     rcases Bool.eq_false_or_eq_true ((decide ((L.getD i DU).2 = (L.getD j DU).2))) with c47 | c47
     · -- 47T
      rw [c47]
      refine reg_nil ?_
      refine hK41 _ _ ?_
      refine wp_cond_true (ev_hit hN37 rfl) ?_
      refine one_reg ?_
      refine op_move (ev_base hN37 rfl s37_6) ?_
      refine op_add (r := ((1 + ((((L.map Prod.snd).take j).count (L.getD i DU).2) + 1) : Nat) : Int)) (ev_hit hN37 rfl) rfl (by rw [wrap_u64 (by omega)]; omega) ?_
      refine op_assign (ev_hit hN37 rfl) ?_
      refine reg_nil ?_
      refine hK40 _ _ ?_
      refine one_reg ?_
      refine op_move (ev_base hN37 rfl s37_7) ?_
      refine op_add (ev_hit hN37 rfl) rfl (add64 (by omega)) ?_
      refine op_assign (ev_hit hN37 rfl) ?_
      refine reg_nil ?_
      -- round 12F 25T 32T 36T 47T
      exact loop_next _ hN37 hd37 ⟨(j + 1), rfl, (sl_base hN37 rfl s37_0), (sl_base hN37 rfl s37_3), (sl_base hN37 rfl s37_5), (sl_hit hN37 rfl).trans (congrArg (Value.int .i64) (by omega)), (sl_hit hN37 rfl).trans (congrArg (Value.int .u64) (by rw [count_t (by simp; omega) (by rw [map2_getD]; simpa using c47)])), (by omega), hb, (by omega), hr, hall, hB13, hK, hs31⟩ (by omega)
     · -- 47F
      rw [c47]
      refine reg_nil ?_
      refine hK41 _ _ ?_
      refine wp_cond_false (ev_hit hN37 rfl) ?_
      refine wp_skip ?_
      refine hK40 _ _ ?_
      refine one_reg ?_
      refine op_move (ev_base hN37 rfl s37_7) ?_
      refine op_add (ev_hit hN37 rfl) rfl (add64 (by omega)) ?_
      refine op_assign (ev_hit hN37 rfl) ?_
      refine reg_nil ?_
      -- round 12F 25T 32T 36T 47F
      exact loop_next _ hN37 hd37 ⟨(j + 1), rfl, (sl_base hN37 rfl s37_0), (sl_base hN37 rfl s37_3), (sl_base hN37 rfl s37_5), (sl_hit hN37 rfl).trans (congrArg (Value.int .i64) (by omega)), (sl_base hN37 rfl s37_6).trans (congrArg (Value.int .u64) (by rw [count_f (by simp; omega) (by rw [map2_getD]; simpa using c47)])), (by omega), hb, (by omega), hr, hall, hB13, hK, hs31⟩ (by omega)
    · -- 36F
     refine reg_nil ?_
     refine hK39 _ _ ?_
     refine wp_cond_false (ev_hit hN37 rfl) ?_
     refine wp_exit (then_exit (then_exit (blk_hit ?_)))
     refine hK35 _ _ ?_
     refine seq_any fun K54 hK54 => ?_
     refine one_reg ?_
     refine op_move (ev_base hN37 rfl s37_3) ?_
     refine op_move (ev_base hN37 rfl s37_0) ?_
     refine op_move (ev_base hN37 rfl s37_5) ?_
     refine op_index_rd slt49 (ev_hit hN37 rfl) hr (ev_hit hN37 rfl) (by omega) (by omega) ?_
     intro b55 o56 h0b55 h1b55 hc57
     refine op_load1 (v := (L.getD i DU).1) one54 (ev_hit hN37 rfl) (by have := hc57 0 (L.getD i DU).1 (by decide) (el_ll (i := i) (d := DU) (by omega) (by omega)); simpa using this) ?_
     have hji : j = i := by omega
     have hmi := mayL_len c32
     have hst := hS.step c32 (by simp; omega)
     refine op_fn (vs := [(ptr k14 0), (L.getD i DU).1]) ok35 ⟨(ev_hit hN37 rfl), ⟨(ev_hit hN37 rfl), trivial⟩⟩ (StampR (x := (L.getD i DU).2) (by omega) (by first | assumption | omega | (simp only [List.length_append, List.length_cons, List.length_nil, List.length_drop, List.length_take]; omega) | (dsimp only; omega) | decide | (simp [keyV, be8_len]; done)) (hs31.mono (Nat.zero_le _) (by omega)) hK) ?_
     rintro _ w60 ⟨E61, rfl, hk59⟩
     have hK_old := hK
     have z_w60 := E61.size
     have hr := hr.keepG E61 (fun k hk => .inr (by have := hK_old.lt k hk; omega))
     have hall : ∀ x9 ∈ L, RdC w60 0 w.heap.size 1 x9.1 x9.2.length (x9.2.map u16v) := fun x9 hx9 => (hall x9 hx9).keepG E61 (fun k hk => .inr (by have := hK_old.lt k hk; omega))
     have hB13 := hB13.keepG E61 dj17
     have hs31 := hs31.keepG E61 (fun k hk => .inr (by have := hK_old.lt k hk; omega))
     have hb := below_stepG hb E61 hb.size (fun k hk => (hK_old.lt k hk).1)
     refine op_move (ev_base hN37 rfl s37_6) ?_
     refine op_neq (ev_hit hN37 rfl) (ev_hit hN37 rfl) (fun c57 => ?_) (fun c57 => ?_)
     · -- 57T
      exact absurd (hst.1.trans (by rw [Nat.add_comm, hji])) c57
     · -- 57F
      refine reg_nil ?_
      refine hK54 _ _ ?_
      refine wp_cond_false (ev_hit hN37 rfl) ?_
      refine wp_skip ?_
      refine hK25 _ _ ?_
      refine one_reg ?_
      refine op_move (ev_base hN37 rfl s37_5) ?_
      refine op_add (ev_hit hN37 rfl) rfl (add64 (by omega)) ?_
      refine op_assign (ev_hit hN37 rfl) ?_
      refine reg_nil ?_
      -- round 12F 25T 32T 36F 57F
      exact loop_next _ hN37 hd37 ⟨(i + 1), mput M (putL (L.getD i DU).2) (IntKind.u64.wrap ((mget M (putL (L.getD i DU).2)).getD 0 + 1)), rfl, (sl_base hN37 rfl s37_0), (sl_base hN37 rfl s37_3), (sl_hit hN37 rfl).trans (congrArg (Value.int .i64) (by omega)), (by omega), (by rw [takeS (d := []) (by simp; omega), map2_getD]; exact hst.2), (may_upto hm c32), hb, (by omega), hr, hall, hB13, hk59⟩ (by omega)
   · -- 32F
    rw [c32]
    refine op_not (ev_hit hN22 rfl) ?_
    refine reg_nil ?_
    refine hK27 _ _ ?_
    refine wp_cond_true (ev_hit hN22 rfl) ?_
    refine seq_any fun K62 hK62 => ?_
    refine one_reg ?_
    refine op_assign rfl ?_
    refine reg_nil ?_
    refine hK62 _ _ ?_
    refine wp_ret (then_ret (blk_ret (then_ret (then_ret (blk_ret (then_ret ( ?_)))))))
    refine ret1 rfl hd22 (ev_hit hN22 rfl) ⟨_, rfl, ?_⟩
    -- path 12F 25T 32F
    exact ⟨hb, rfl⟩
  · -- 25F
   refine reg_nil ?_
   refine hK24 _ _ ?_
   refine wp_cond_false (ev_hit hN22 rfl) ?_
   refine wp_exit (then_exit (then_exit (blk_hit ?_)))
   refine hK20 _ _ ?_
   refine seq_any fun K63 hK63 => ?_
   refine one_reg ?_
   refine op_assign rfl ?_
   refine reg_nil ?_
   refine hK63 _ _ ?_
   refine wp_ret ?_
   refine ret1 rfl hd22 (ev_hit hN22 rfl) ⟨_, rfl, ?_⟩
   -- path 12F 25F
   exact ⟨hb, rfl⟩

end Go.Proofs.Ytmhdbphpmgjpcaa

/- What the arguments of the laws are, told by their types. -/
namespace Go.Proofs.Ytmhdbphpmgjpcaa
open Go.Gx Go.RowKit
theorem rd_le {w : World} {L B sz n : Nat} {v : Value} {cs : List Value} (h : RdC w L B sz v n cs) : n ≤ 9223372036854775807 := by obtain ⟨_, _, _, _, hq, hm, _⟩ := h; exact Nat.le_trans hq hm
theorem cells46 : Try.prog.cellsOf 46 = 1 := by kernel_rfl
theorem flat_u16v (l : List UInt16) : l.flatMap (fun c => [u16v c]) = l.map u16v := by induction l with | nil => rfl | cons c l ih => simp [ih]
theorem dec54 {H : Type} {enc : TypeId × Value → H} {w : World} {base : Nat} {spare : Nat → Bool} {held : Bool} : Dec enc Try.prog w base spare held 54 (fun p : Value × List UInt16 => [p.1]) (fun p => RdC w 0 w.heap.size 1 p.1 p.2.length (p.2.map u16v)) :=
  (Dec.slice Try.underlying54 (by rw [cells46]; decide) (Dec.u16 Try.underlying46) (fun _ _ => by rw [cells46]; rfl)).map fun p hp => ⟨p, rfl, by have hq := hp.1; rwa [cells46, flat_u16v] at hq⟩
theorem cells54 : Try.prog.cellsOf 54 = 1 := by kernel_rfl
theorem dec49 {H : Type} {enc : TypeId × Value → H} {w : World} {base : Nat} {spare : Nat → Bool} {held : Bool} : Dec enc Try.prog w base spare held 49 (fun p : Value × List (Value × List UInt16) => [p.1]) (fun p => RdC w 0 w.heap.size 1 p.1 p.2.length (p.2.flatMap (fun (x9 : Value × List UInt16) => [x9.1])) ∧ ∀ x ∈ p.2, (RdC w 0 w.heap.size 1 x.1 x.2.length (x.2.map u16v))) :=
  (Dec.slice Try.underlying49 (by rw [cells54]; decide) dec54 (fun _ _ => by rw [cells54]; rfl)).map fun p hp => ⟨p, rfl, by have hq := hp.1; rw [cells54] at hq; exact hq, hp.2⟩
end Go.Proofs.Ytmhdbphpmgjpcaa
