/- Walks, written by a program: what each function of the translation hands back. -/
import Derived.Test.YtkkongnmcfdioaaR4
namespace Go.Proofs.Ytkkongnmcfdioaa
open Go.Gx Go.RowKit
attribute [local irreducible] wpList Code.wp Calls

theorem many_ret (bl : List UInt8) (r n : Nat) (bv : Value) (w : World) (hn : n ≤ 1000) (hl : bl.length ≤ 1000000000000) (hr : Bx w r 105 [bv, (Value.func (.func 40) #[] #[])]) (hv : RdC w 0 r 1 bv bl.length (bl.map u8v)) : Ret Try.prog 73 #[(ptr r 0), (Value.int .i64 ((n : Nat) : Int))] w (fun v' w' => w.grownBy w' (some r) ∧ ∃ u bv', v' = .tuple #[u, .int .i64 (manyA [] n bl).2.2] ∧ Own w' w.heap.size 50 3 u (manyA [] n bl).1.length ((manyA [] n bl).1.flatMap cellsV) ∧ RdC w' 0 r 1 bv' (manyA [] n bl).2.1.length ((manyA [] n bl).2.1.map u8v) ∧ Bx w' r 105 [bv', (Value.func (.func 40) #[] #[])]) := by
  have hr_lt := hr.lt
  have hb := grown_refl w (some r)
  refine enter (N := 26) Try.func73 rfl rfl (by simp) fun a0 hN hd hA => ?_
  have s0 : a0.tmps.getD 0 undef = (ptr r 0) := hA 0 (by simp)
  have s1 : a0.tmps.getD 1 undef = (Value.int .i64 ((n : Nat) : Int)) := hA 1 (by simp)
  clear hA
  refine seq_any fun K1 hK1 => ?_
  refine one_reg ?_
  refine op_assign rfl ?_
  refine op_assign rfl ?_
  refine reg_nil ?_
  refine hK1 _ _ ?_
  refine seq_any fun K2 hK2 => ?_
  refine one_reg ?_
  refine op_assign rfl ?_
  refine reg_nil ?_
  refine hK2 _ _ ?_
  refine seq_any fun K3 hK3 => ?_
  refine seq_any fun K4 hK4 => ?_
  refine one_reg ?_
  refine op_move (ev_base hN rfl s1) ?_
  refine op_move rfl ?_
  refine reg_nil ?_
  refine hK4 _ _ ?_
  refine wp_block ?_
  have hr_old := hr
  refine loop_m (fun mz_ a w' => ∃ (i : Nat) (acc : List Vl) (bq : List UInt8) (bu u : Value), mz_ = n - i ∧ (a.tmps.getD 0 undef = (ptr r 0)) ∧ (a.tmps.getD 1 undef = (Value.int .i64 ((n : Nat) : Int))) ∧ (a.tmps.getD 9 undef = (Value.int .i64 ((n : Nat) : Int))) ∧ (a.tmps.getD 10 undef = (Value.int .i64 ((i : Nat) : Int))) ∧ (a.tmps.getD 6 undef = u) ∧ (i ≤ n) ∧ (acc.length = i) ∧ (bq.length ≤ 1000000000000) ∧ (manyA [] n bl = manyA acc (n - i) bq) ∧ (w.grownBy w' (some r)) ∧ (Bx w' r 105 [bu, (Value.func (.func 40) #[] #[])]) ∧ (RdC w' 0 r 1 bu bq.length (bq.map u8v)) ∧ (Own w' w.heap.size 50 3 u acc.length (acc.flatMap cellsV))) _ hN hd ⟨0, [], bl, bv, _, rfl, (sl_base hN rfl s0), (sl_base hN rfl s1), (sl_hit hN rfl), (sl_hit hN rfl), (sl_hit hN rfl), Nat.zero_le _, rfl, hl, rfl, hb, hr, hv, (Own.nil _ _ _ _)⟩ ?_
  rintro _ a5 w5 hN5 hd5 ⟨i, acc, bq, bu, u, rfl, s5_0, s5_1, s5_9, s5_10, s5_6, hi, hacc, hbq, hm, hb, hrq, hvq, hO6⟩
  have z_w5 := hb.size
  refine seq_any fun K7 hK7 => ?_
  refine one_reg ?_
  refine op_lss (ev_base hN5 rfl s5_10) (ev_base hN5 rfl s5_9) (fun c11 => ?_) (fun c11 => ?_)
  · -- 11 True
    refine reg_nil ?_
    refine hK7 _ _ ?_
    refine seq_any fun K8 hK8 => ?_
    refine wp_cond_true (ev_hit hN5 rfl) ?_
    refine wp_skip ?_
    refine hK8 _ _ ?_
    refine seq_any fun K9 hK9 => ?_
    refine wp_block ?_
    refine seq_any fun K10 hK10 => ?_
    refine one_reg ?_
    refine op_move (ev_base hN5 rfl s5_0) ?_
    refine op_fn (vs := [(ptr r 0)]) ok86 ⟨(ev_hit hN5 rfl), trivial⟩ (next_ret bq r _ _ (by first | assumption | omega | (simp only [List.length_append, List.length_cons, List.length_nil, List.length_drop, List.length_take]; omega) | (dsimp only; omega) | decide | (simp [keyV, be8_len]; done)) hrq (hvq.cast (by first | rfl | simp) rfl)) ?_
    rintro _ w12 ⟨E13, v11, rfl, hq11, hx11⟩
    have hrq_old := hrq
    have z_w12 := E13.size
    have hO6 := hO6.keepX hrq_old E13 (by decide)
    have hb := grown_trans hb E13
    refine op_move (ev_hit hN5 rfl) ?_
    refine op_extract (ev_hit hN5 rfl) rfl ?_
    refine op_extract (ev_hit hN5 rfl) rfl ?_
    refine op_alloc (cs := [(Value.int .i64 0), (Value.int .i64 0), (Value.string (bs []))]) zero50 rfl ?_
    intro w14 b15 lo_b15 hi_b15 hB17 E16
    have ne_b15_u : u.ownBlock ≠ some b15 := fun hh => by have := (hO6.lt _ hh).2; omega
    have z_w14 := E16.size
    have hO6 := hO6.keep0 E16
    have hq11 := hq11.keep0 E16
    have hx11 := hx11.keep0 E16
    have hb := grow_step0 hb E16
    have hB17_old := hB17
    refine op_store (vs := [(Value.int .i64 (takeV bq).1.k), (Value.int .i64 (takeV bq).1.n), (Value.string (bs (takeV bq).1.s))]) (cs' := [(Value.int .i64 (takeV bq).1.k), (Value.int .i64 (takeV bq).1.n), (Value.string (bs (takeV bq).1.s))]) size50 (ev_hit hN5 rfl) (ev_hit hN5 rfl) rfl rfl rfl hB17 (Nat.le_of_ble_eq_true rfl) rfl ?_
    intro w20 hB17 E21
    have z_w20 := E21.size
    have hO6 := hO6.keep E21 (.inr ne_b15_u)
    have hq11 := hq11.keep E21 (fun k hk => .inr (by simp at hk; omega))
    have hx11 := hx11.keep E21 (by simp; omega)
    have hb := grow_step1 hb E21 (by omega)
    refine op_assign (ev_hit hN5 rfl) ?_
    refine reg_nil ?_
    refine hK10 _ _ ?_
    refine seq_any fun K22 hK22 => ?_
    refine seq_any fun K23 hK23 => ?_
    refine one_reg ?_
    refine op_move (ev_hit hN5 rfl) ?_
    refine op_neq (ev_hit hN5 rfl) rfl (fun c18 => ?_) (fun c18 => ?_)
    · -- 18 True
      refine reg_nil ?_
      refine hK23 _ _ ?_
      refine wp_cond_true (ev_hit hN5 rfl) ?_
      refine seq_any fun K24 hK24 => ?_
      refine one_reg ?_
      refine op_move (ev_hit hN5 rfl) ?_
      refine op_assign rfl ?_
      refine op_assign (ev_hit hN5 rfl) ?_
      refine reg_nil ?_
      refine hK24 _ _ ?_
      refine wp_ret (then_ret (blk_ret (then_ret (then_ret (blk_ret (then_ret ( ?_)))))))
      refine ret2 rfl hd5 (ev_hit hN5 rfl) (ev_hit hN5 rfl) ⟨_, rfl, ?_⟩
      -- path 11T 18T
      have hm2 := hm.trans (many_bad (by omega) (by omega))
      exact ⟨hb, _, _, by rw [hm2]; rfl, by rw [hm2]; exact Own.nil _ _ _ _, by rw [hm2]; exact hq11, hx11⟩
    · -- 18 False
      refine reg_nil ?_
      refine hK23 _ _ ?_
      refine wp_cond_false (ev_hit hN5 rfl) ?_
      refine wp_skip ?_
      refine hK22 _ _ ?_
      refine one_reg ?_
      refine op_move (ev_base hN5 rfl s5_6) ?_
      refine op_loadA (cs := [(Value.int .i64 (takeV bq).1.k), (Value.int .i64 (takeV bq).1.n), (Value.string (bs (takeV bq).1.s))]) agg50 rfl (ev_hit hN5 rfl) (fun j u hu => by rw [Nat.zero_add]; exact hB17.cell hu) ?_
      refine op_bslice (e := 50) (pv := [(0, (Value.agg #[(Value.int .i64 (takeV bq).1.k), (Value.int .i64 (takeV bq).1.n), (Value.string (bs (takeV bq).1.s))]))]) (cs := [(Value.int .i64 (takeV bq).1.k), (Value.int .i64 (takeV bq).1.n), (Value.string (bs (takeV bq).1.s))]) ⟨rfl, (ev_hit hN5 rfl), trivial⟩ (by kernel_rfl) ?_
      intro w25 b26 lo_b26 hi_b26 hB28 E27
      have ne_b26_u : u.ownBlock ≠ some b26 := fun hh => by have := (hO6.lt _ hh).2; omega
      have z_w25 := E27.size
      have hO6 := hO6.keep0 E27
      have hq11 := hq11.keep0 E27
      have hx11 := hx11.keep0 E27
      have hB17 := hB17.keep0 E27
      have hb := grow_step0 hb E27
      have hP34 := hO6
      refine op_append slt65 (ev_hit hN5 rfl) hP34 (ev_hit hN5 rfl) (Src.ofRd Try.underlying65 (by decide) (RdC.ofBx (sz := 3) (n := 1) hB28 rfl (by decide)) (by simp [Value.oneCell', u8v])) (by unfold maxLen; omega) (by omega) hb.size ?_
      intro v29 w30 hO32 E31 hm33
      have z_w30 := E31.size
      have hq11 := hq11.keepO hP34 E31 (by omega)
      have hx11 := hx11.keepO hP34 E31 (by decide)
      have hB17 := hB17.keep E31 (fun hh => ne_b15_u hh.symm)
      have hB28 := hB28.keep E31 (fun hh => ne_b26_u hh.symm)
      have hb := grow_stepO hb hP34 E31 (by omega)
      have hO32 : Own w30 w.heap.size 50 3 v29 (acc.length + 1) (((acc ++ [(takeV bq).1])).flatMap cellsV) := by simpa [u8v, cellsV] using hO32
      have ne_b15_v29 : v29.ownBlock ≠ some b15 := ne_step (w1 := w25) ⟨E31, hm33⟩ (by omega) ne_b15_u
      have ne_b26_v29 : v29.ownBlock ≠ some b26 := ne_step (w1 := w25) ⟨E31, hm33⟩ (by omega) ne_b26_u
      refine op_assign (ev_hit hN5 rfl) ?_
      refine reg_nil ?_
      refine hK9 _ _ ?_
      refine one_reg ?_
      refine op_add (ev_base hN5 rfl s5_10) rfl (add64 (by omega)) ?_
      refine op_move (ev_hit hN5 rfl) ?_
      refine reg_nil ?_
      -- round 11T 18F
      exact loop_next _ hN5 hd5 ⟨i + 1, _, _, _, _, rfl, (sl_base hN5 rfl s5_0), (sl_base hN5 rfl s5_1), (sl_base hN5 rfl s5_9), (sl_hit hN5 rfl).trans (congrArg (Value.int .i64) (by omega)), (sl_hit hN5 rfl), (by omega), (by simp; omega), (by simp; omega), (hm.trans (many_step (by omega) (by omega))), hb, hx11, hq11, (hO32.cast (by simp) (by simp [cellsV]))⟩ (by omega)
  · -- 11 False
    refine reg_nil ?_
    refine hK7 _ _ ?_
    refine seq_any fun K35 hK35 => ?_
    refine wp_cond_false (ev_hit hN5 rfl) ?_
    refine wp_exit (then_exit (then_exit (blk_hit ?_)))
    refine hK3 _ _ ?_
    refine seq_any fun K36 hK36 => ?_
    refine one_reg ?_
    refine op_move (ev_base hN5 rfl s5_6) ?_
    refine op_assign (ev_hit hN5 rfl) ?_
    refine op_assign rfl ?_
    refine reg_nil ?_
    refine hK36 _ _ ?_
    refine wp_ret ?_
    refine ret2 rfl hd5 (ev_hit hN5 rfl) (ev_hit hN5 rfl) ⟨_, rfl, ?_⟩
    -- path 11F
    have e0 : n - i = 0 := by omega
    have hm2 : manyA [] n bl = (acc, bq, 0) := by rw [hm, e0]; rfl
    exact ⟨hb, _, _, by rw [hm2]; rfl, by rw [hm2]; exact hO6, by rw [hm2]; exact hvq, hrq⟩

end Go.Proofs.Ytkkongnmcfdioaa
